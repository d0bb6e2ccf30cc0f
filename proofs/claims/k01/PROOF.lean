import PyProof.Rows.All
import Wide.All
import OpenK.AllK
import Wide.FinOn
import HandS.ForMost
import HandS.ForExc
import HandS.Flow
import HandS.More
import HandS.Star
import HandS.Slots
import HandS.SlotsOwn
import KE.GoesEnum
import HandS.Zip
import HandS.Walk
import HandS.Defaults
import HandS.Deep
import HandS.TupAny
import HandS.TupMul
import HandS.Wide
import HandS.IsInst
import HandS.SortInts
import HandS.Conv
import KE.SortData
import KE.DataMinMax
import HandS.RaiseMore
import HandS.WordsDict
import KE.GoesZip
import KE.KDictZip
import KE.KDictList
import HandS.FStr
import HandS.Dict
import HandS.Text
import KE.KCallOwn
import HandS.Head0
import HandS.Head1
import HandS.Head2
import HandS.HeadEnd
import HandS.HeadHook1
import HandS.HeadHook2
import PySem.Challenge.RW_poolmaps_k01_webs_told_by_walks
set_option Elab.async false
set_option linter.all false
set_option maxRecDepth 100000
set_option maxHeartbeats 4000000
namespace DL
open PySem PySem.Spec PyProof.Rows L2

/-! ### data: what does not change is a tree (P); what changes has a number -/
inductive P where
  | non | bl (b : Bool) | int (i : Int) | str (x : Str)
  | tup (xs : List P) | lst (xs : List P)
  | obj (c : Str) (fs : List P)
  | dic (ks : List Key) (vs : List P)
  | ty (n : String) | cls (c : Str)
  deriving Inhabited
inductive D where
  | p (x : P)
  | own (n : Nat)
  deriving Inhabited
/-- what stands under a number -/
inductive MO where
  | lst (xs : List D)
  | tup (xs : List D)
  | dic (ks : List Key) (vs : List D)
  | ins (c : Str) (fs : List (Option D))
  | scr (xs : List D)
  | dead
abbrev Mem := List MO
abbrev Rho := List (Option D)
inductive Res (α : Type) where
  | ok (a : α)
  | exc (c : Str) (fs : List P)
abbrev Out (α : Type) := Option (Res α × Mem)
def bindR {α β : Type} (x : Out α) (k : α → Mem → Out β) : Out β := match x with
  | none => none
  | some (.ok a, M) => k a M
  | some (.exc c fs, M) => some (.exc c fs, M)
@[simp] theorem bindR_ok {α β : Type} (a : α) (M : Mem) (k : α → Mem → Out β) : bindR (some (.ok a, M)) k = k a M := rfl
@[simp] theorem bindR_none {α β : Type} (k : α → Mem → Out β) : bindR none k = none := rfl
@[simp] theorem bindR_exc {α β : Type} (c : Str) (fs : List P) (M : Mem) (k : α → Mem → Out β) : bindR (some (.exc c fs, M)) k = some (.exc c fs, M) := rfl

/-! ### the fixed part, the world -/
structure G where
  K : PySem.W.Frag
  ct : Str → Addr
structure Wd where
  F : Addr → Prop
  io : List (Addr × Addr)
  M : Mem
  H : Hp

def RT (K : PySem.W.Frag) (F : Addr → Prop) (H : Hp) (a : Addr) (xs : List V) : Prop := (F a ∧ Rd H a (.tup xs)) ∨
  ∃ (o : Obj) (its : Array Value) (n : Nat), K.lookup a = some o ∧ o.cls = .type "tuple" ∧ o.data = .seq its n ∧ its.size ≤ sizeLine ∧ Vals xs its.toList
def RL (_ : PySem.W.Frag) (F : Addr → Prop) (H : Hp) (a : Addr) (xs : List V) : Prop := (F a ∧ H a = some (.lst xs)) ∨ False
theorem RT.sq {K : PySem.W.Frag} {F : Addr → Prop} {H : Hp} {a : Addr} {xs : List V} (h : RT K F H a xs) : SqT K H a xs := by
  rcases h with h | h
  · exact .inl h.2
  · exact .inr h
theorem RL.sq {K : PySem.W.Frag} {F : Addr → Prop} {H : Hp} {a : Addr} {xs : List V} (h : RL K F H a xs) : SqL K H a xs := by
  rcases h with h | h
  · exact .inl (.inl h.2)
  · exact h.elim
theorem RL.at_ {K : PySem.W.Frag} {F : Addr → Prop} {H : Hp} {a : Addr} {xs : List V} (h : RL K F H a xs) : H a = some (.lst xs) := by
  rcases h with h | h
  · exact h.2
  · exact h.elim
theorem RL.rd {K : PySem.W.Frag} {F : Addr → Prop} {H : Hp} {a : Addr} {xs : List V} (h : RL K F H a xs) : Rd H a (.lst xs) := .inl h.at_

mutual
/-- the value v stands for the datum -/
def Den (g : G) (F : Addr → Prop) (H : Hp) : P → V → Prop
  | .non, v => v = .non
  | .bl b, v => v = .bl b
  | .int i, v => v = .int i
  | .str x, v => v = .str x
  | .tup ds, v => ∃ a xs, v = .ref a ∧ RT g.K F H a xs ∧ DenL g F H ds xs
  | .lst ds, v => ∃ a xs, v = .ref a ∧ RL g.K F H a xs ∧ DenL g F H ds xs
  | .obj c ds, v => ∃ (a dx : Addr) (vs : List (Option V)) (xs : List V), v = .ref a ∧ (F a ∧ F dx) ∧ dx ≠ a ∧ (H a = some (SlX.SlO a (g.ct c) dx vs) ∧ H dx = some (.xd [])) ∧ (∀ (j : Nat) y, xs[j]? = some y → vs[j]? = some (some y)) ∧ DenL g F H ds xs
  | .dic ks vs, v => ∃ a xs, v = .ref a ∧ F a ∧ Rd H a (.dK (ks.zip xs)) ∧ ks.length = xs.length ∧ DenL g F H vs xs
  | .ty n, v => v = .ty n
  | .cls c, v => v = .ref (g.ct c)
def DenL (g : G) (F : Addr → Prop) (H : Hp) : List P → List V → Prop
  | [], xs => xs = []
  | d :: ds, xs => ∃ x r, xs = x :: r ∧ Den g F H d x ∧ DenL g F H ds r
end
def DenD (g : G) (w : Wd) : D → V → Prop
  | .p x, v => Den g w.F w.H x v
  | .own n, v => ∃ a dx, v = .ref a ∧ w.io[n]? = some (a, dx)
def DenDs (g : G) (w : Wd) : List D → List V → Prop := Paired (DenD g w)

def MDen (g : G) (w : Wd) (a dx : Addr) : MO → Prop
  | .lst ds => dx = a ∧ ∃ xs, w.H a = some (.lst xs) ∧ DenDs g w ds xs
  | .tup ds => dx = a ∧ ∃ xs, w.H a = some (.tup xs) ∧ DenDs g w ds xs
  | .dic ks vs => dx = a ∧ ∃ xs, w.H a = some (.dK (ks.zip xs)) ∧ ks.length = xs.length ∧ DenDs g w vs xs
  | .ins c fs => ∃ xs : List (Option V), SlX.Slt w.H a (g.ct c) dx xs ∧ dx ≠ a ∧ w.H dx ≠ none ∧ (∀ (i : Nat) (d : D), fs[i]? = some (some d) → ∃ x, xs[i]? = some (some x) ∧ DenD g w d x)
  | .scr ds => dx = a ∧ ∃ xs, Rd w.H a (.lst xs) ∧ DenDs g w ds xs
  | .dead => w.H a ≠ none ∧ w.H dx ≠ none
/-- a is the thing's own, may change -/
def Wd.owns (w : Wd) (a : Addr) : Prop := ∃ p ∈ w.io, a = p.1 ∨ a = p.2

structure Ok (g : G) (w : Wd) : Prop where
  len : w.io.length = w.M.length
  nd : ∀ (i j : Nat) p q, w.io[i]? = some p → w.io[j]? = some q → i ≠ j → p.1 ≠ q.1 ∧ p.1 ≠ q.2 ∧ p.2 ≠ q.1 ∧ p.2 ≠ q.2
  fdom : ∀ a, w.F a → w.H a ≠ none
  disj : ∀ a, w.owns a → ¬ w.F a
  own : ∀ (i : Nat) p o, w.io[i]? = some p → w.M[i]? = some o → MDen g w p.1 p.2 o
structure Le (w w' : Wd) : Prop where
  fm : ∀ a, w.F a → w'.F a
  keep : ∀ a o, w.H a = some o → ¬ w.owns a → w'.H a = some o
  fnew : ∀ a, w'.F a → w.F a ∨ w.H a = none
  alive : ∀ a, w.H a ≠ none → w'.H a ≠ none
  pre : ∃ more, w'.io = w.io ++ more ∧ ∀ p ∈ more, w.H p.1 = none ∧ w.H p.2 = none

theorem Le.refl (w : Wd) : Le w w := ⟨fun _ h => h, fun _ _ h _ => h, fun _ h => .inl h, fun _ h => h, [], by simp, by simp⟩
theorem Le.owns {w w' : Wd} (l : Le w w') {a : Addr} (h : w'.owns a) : w.owns a ∨ w.H a = none := by
  obtain ⟨more, e, hm⟩ := l.pre
  obtain ⟨p, hp, ha⟩ := h
  rw [e, List.mem_append] at hp
  rcases hp with hp | hp
  · exact .inl ⟨p, hp, ha⟩
  · rcases ha with rfl | rfl
    · exact .inr (hm p hp).1
    · exact .inr (hm p hp).2
theorem Le.owned {w w' : Wd} (l : Le w w') {a : Addr} (h : w.owns a) : w'.owns a := by
  obtain ⟨more, e, hm⟩ := l.pre
  obtain ⟨p, hp, ha⟩ := h
  exact ⟨p, by rw [e]; exact List.mem_append_left _ hp, ha⟩
theorem Le.trans {u v w : Wd} (a : Le u v) (b : Le v w) : Le u w where
  fm := fun x h => b.fm x (a.fm x h)
  keep := fun x o h n => b.keep x o (a.keep x o h n) fun q => by
    rcases a.owns q with z | z
    · exact n z
    · rw [z] at h; cases h
  fnew := fun x h => by
    rcases b.fnew x h with h | h
    · exact a.fnew x h
    · right
      cases q : u.H x with
      | none => rfl
      | some o => exact absurd h (a.alive x (by rw [q]; simp))
  alive := fun x h => b.alive x (a.alive x h)
  pre := by
    obtain ⟨m1, e1, h1⟩ := a.pre
    obtain ⟨m2, e2, h2⟩ := b.pre
    refine ⟨m1 ++ m2, by rw [e2, e1, List.append_assoc], fun p hp => ?_⟩
    rcases List.mem_append.mp hp with hp | hp
    · exact h1 p hp
    · have z := h2 p hp
      constructor
      · cases q : u.H p.1 with
        | none => rfl
        | some o => exact absurd z.1 (a.alive _ (by rw [q]; simp))
      · cases q : u.H p.2 with
        | none => rfl
        | some o => exact absurd z.2 (a.alive _ (by rw [q]; simp))

/-! ### what stands for a datum goes on to stand for it -/
/-- two heaps alike over the frozen -/
def Ag (F F' : Addr → Prop) (H H' : Hp) : Prop := ∀ a, F a → F' a ∧ ∀ u, Rd H a u → Rd H' a u
theorem rt_mono {K : PySem.W.Frag} {F F' : Addr → Prop} {H H' : Hp} (A : Ag F F' H H') {a : Addr} {xs : List V} (h : RT K F H a xs) : RT K F' H' a xs := by
  rcases h with h | h
  · exact .inl ⟨(A a h.1).1, (A a h.1).2 _ h.2⟩
  · exact .inr h
/-- the frozen is not walked upon: objects are kept as they are but for dicts under a lock -/
structure Kp (F F' : Addr → Prop) (H H' : Hp) : Prop where
  ag : Ag F F' H H'
  ext : ∀ a φ, F a → H a = some (.ext φ) → H' a = some (.ext φ)
  xd : ∀ a fs, F a → H a = some (.xd fs) → H' a = some (.xd fs)
  lst : ∀ a xs, F a → H a = some (.lst xs) → H' a = some (.lst xs)
theorem rl_mono {K : PySem.W.Frag} {F F' : Addr → Prop} {H H' : Hp} (A : Kp F F' H H') {a : Addr} {xs : List V} (h : RL K F H a xs) : RL K F' H' a xs := by
  rcases h with h | h
  · exact .inl ⟨(A.ag a h.1).1, A.lst a xs h.1 h.2⟩
  · exact .inr h
mutual
theorem den_mono {g : G} {F F' : Addr → Prop} {H H' : Hp} (A : Kp F F' H H') : ∀ (d : P) (v : V), Den g F H d v → Den g F' H' d v
  | .non, _, h => h
  | .bl _, _, h => h
  | .int _, _, h => h
  | .str _, _, h => h
  | .tup ds, v, h => by
    unfold Den at h ⊢
    obtain ⟨a, xs, e, r, q⟩ := h
    exact ⟨a, xs, e, rt_mono A.ag r, denL_mono A ds xs q⟩
  | .lst ds, v, h => by
    unfold Den at h ⊢
    obtain ⟨a, xs, e, r, q⟩ := h
    exact ⟨a, xs, e, rl_mono A r, denL_mono A ds xs q⟩
  | .obj c ds, v, h => by
    unfold Den at h ⊢
    obtain ⟨a, dx, vs, xs, e, f, n, r, z, q⟩ := h
    exact ⟨a, dx, vs, xs, e, ⟨(A.ag a f.1).1, (A.ag dx f.2).1⟩, n, ⟨A.ext _ _ f.1 r.1, A.xd _ _ f.2 r.2⟩, z, denL_mono A ds xs q⟩
  | .dic ks vs, v, h => by
    unfold Den at h ⊢
    obtain ⟨a, xs, e, f, r, l, q⟩ := h
    exact ⟨a, xs, e, (A.ag a f).1, (A.ag a f).2 _ r, l, denL_mono A vs xs q⟩
  | .ty _, _, h => h
  | .cls _, _, h => h
theorem denL_mono {g : G} {F F' : Addr → Prop} {H H' : Hp} (A : Kp F F' H H') : ∀ (ds : List P) (vs : List V), DenL g F H ds vs → DenL g F' H' ds vs
  | [], _, h => h
  | d :: ds, vs, h => by
    unfold DenL at h ⊢
    obtain ⟨x, r, e, h1, h2⟩ := h
    exact ⟨x, r, e, den_mono A d x h1, denL_mono A ds r h2⟩
end
theorem Kp.same {F F' : Addr → Prop} {H H' : Hp} (h : ∀ a, F a → F' a ∧ ∀ o, H a = some o → H' a = some o) : Kp F F' H H' where
  ag := fun a f => ⟨(h a f).1, fun u r => by
    rcases r with r | ⟨o, r⟩
    · exact .inl ((h a f).2 _ r)
    · exact .inr ⟨o, (h a f).2 _ r⟩⟩
  ext := fun a φ f e => (h a f).2 _ e
  xd := fun a fs f e => (h a f).2 _ e
  lst := fun a xs f e => (h a f).2 _ e
theorem Le.kp {g : G} {w w' : Wd} (l : Le w w') (k : Ok g w) : Kp w.F w'.F w.H w'.H := .same fun a f => ⟨l.fm a f, fun o e => l.keep a o e fun q => k.disj a q f⟩
theorem Le.den {g : G} {w w' : Wd} (l : Le w w') (k : Ok g w) {d : P} {v : V} (h : Den g w.F w.H d v) : Den g w'.F w'.H d v := den_mono (l.kp k) d v h
theorem Le.io {w w' : Wd} (l : Le w w') {n : Nat} {p : Addr × Addr} (h : w.io[n]? = some p) : w'.io[n]? = some p := by
  obtain ⟨more, e, _⟩ := l.pre
  rw [e, List.getElem?_append_left (List.getElem?_eq_some_iff.mp h).1]
  exact h
theorem Le.denD {g : G} {w w' : Wd} (l : Le w w') (k : Ok g w) {d : D} {v : V} (h : DenD g w d v) : DenD g w' d v := by
  cases d with
  | p x => exact l.den k h
  | own n =>
    obtain ⟨a, dx, e, q⟩ := h
    exact ⟨a, dx, e, l.io q⟩
theorem Le.denDs {g : G} {w w' : Wd} (l : Le w w') (k : Ok g w) {ds : List D} {vs : List V} (h : DenDs g w ds vs) : DenDs g w' ds vs := Paired.mapP h fun _ _ q => l.denD k q

/-! ### slots -/
def SlotOk (g : G) (w : Wd) : Option D → Option V → Prop
  | none, _ => True
  | some d, some v => DenD g w d v
  | some _, none => False
abbrev Slots (g : G) (w : Wd) (ρ : Rho) (σ : L2.St) : Prop := Paired (SlotOk g w) ρ σ
theorem Le.slots {g : G} {w w' : Wd} (l : Le w w') (k : Ok g w) {ρ : Rho} {σ : L2.St} (h : Slots g w ρ σ) : Slots g w' ρ σ := Paired.mapP h fun a b q => by
  cases a with
  | none => trivial
  | some d => cases b with
    | none => exact q
    | some v => exact l.denD k q
theorem paired_get {α β : Type} {R : α → β → Prop} : ∀ {xs : List α} {ys : List β} {i : Nat} {x : α}, Paired R xs ys → xs[i]? = some x → ∃ y, ys[i]? = some y ∧ R x y
  | _, _, _, _, .nil, e => by simp at e
  | _, _, 0, _, .cons r _, e => by simp at e; subst e; exact ⟨_, rfl, r⟩
  | _, _, i + 1, x, .cons _ t, e => by
    obtain ⟨u, h1, h2⟩ := paired_get (i := i) (x := x) t (by simpa using e)
    exact ⟨u, by simpa using h1, h2⟩
theorem paired_set {α β : Type} {R : α → β → Prop} {x : α} {y : β} (r : R x y) : ∀ {xs : List α} {ys : List β} (i : Nat), Paired R xs ys → Paired R (xs.set i x) (ys.set i y)
  | _, _, _, .nil => .nil
  | _, _, 0, .cons _ t => .cons r t
  | _, _, i + 1, .cons q t => .cons q (paired_set r i t)
theorem Slots.get {g : G} {w : Wd} {ρ : Rho} {σ : L2.St} (h : Slots g w ρ σ) {i : Nat} {d : D} (e : ρ[i]? = some (some d)) : ∃ v, σ[i]? = some (some v) ∧ DenD g w d v := by
  obtain ⟨y, h1, h2⟩ := paired_get h e
  cases y with
  | none => exact h2.elim
  | some v => exact ⟨v, h1, h2⟩

/-! ### readings of mirrors -/
abbrev ME := Rho → Mem → Out D
abbrev MA := Rho → Mem → Out (List D)
/-- an exception with its class and what it keeps -/
def XDen (g : G) (w : Wd) (fs : List P) : Option Addr → Prop
  | none => fs = []
  | some d => ∃ kvs : List (Str × V), w.H d = some (.xd kvs) ∧ DenL g w.F w.H fs (kvs.map (·.2))
def Post {α : Type} (g : G) (E : XK) (w : Wd) (R : Wd → α → Prop) : Res α → Mem → Prop
  | .ok a, M' => ∀ w', w'.M = M' → Le w w' → Ok g w' → R w' a
  | .exc c fs, M' => ∀ w' o, w'.M = M' → Le w w' → Ok g w' → XDen g w' fs o → E (.ref (g.ct c)) o w'.H
/-- somewhere in an expression: the values in hand Γ, what is still to be reckoned k, what is wanted of its end R -/
def At {α : Type} (g : G) (E : XK) (σ : L2.St) (ρ : Rho) (Γ : List (D × V)) (H : Hp) (k : Mem → Out α) (R : Wd → α → Prop) : Prop :=
  ∃ w, w.H = H ∧ Ok g w ∧ Slots g w ρ σ ∧ (∀ p ∈ Γ, DenD g w p.1 p.2) ∧ ∃ r M', k w.M = some (r, M') ∧ Post g E w R r M'
def RV (g : G) (Q : VK) : Wd → D → Prop := fun w d => ∀ v, DenD g w d v → Q v w.H
def RA (g : G) (Q : List V → Hp → Prop) : Wd → List D → Prop := fun w ds => ∀ vs, DenDs g w ds vs → Q vs w.H
def RB (Q : Bool → Hp → Prop) : Wd → Bool → Prop := fun w b => Q b w.H
def tM (g : G) (E : XK) (m : ME) : TE := fun σ H Q => ∃ ρ, At g E σ ρ [] H (m ρ) (RV g Q)
def tMA (g : G) (E : XK) (m : MA) : TA := fun σ H Q => ∃ ρ, At g E σ ρ [] H (m ρ) (RA g Q)
def tMT (g : G) (E : XK) (m : Rho → Mem → Out Bool) : TT := fun σ H Q => ∃ ρ, At g E σ ρ [] H (m ρ) (RB Q)
theorem PE.mono {X : Cx} {e : Expr} {t t' : TE} (h : PE X e t) (q : ∀ σ H Q, t' σ H Q → t σ H Q) : PE X e t' := ⟨fun pins s σ H Q I z => h.run pins s σ H Q I (q σ H Q z)⟩
theorem PT.mono {X : Cx} {e : Expr} {t t' : TT} (h : PT X e t) (q : ∀ σ H Q, t' σ H Q → t σ H Q) : PT X e t' := ⟨fun pins s σ H Q I z => h.run pins s σ H Q I (q σ H Q z)⟩
theorem PA.mono {X : Cx} {e : List Expr} {t t' : TA} (h : PA X e t) (q : ∀ σ H Q, t' σ H Q → t σ H Q) : PA X e t' := ⟨fun pos pins s σ H Q I z => h.run pos pins s σ H Q I (q σ H Q z)⟩
theorem PS.mono {X : Cx} {e : Stmt} {t t' : TS} (h : PS X e t) (q : ∀ D σ H, t' D σ H → t D σ H) : PS X e t' := ⟨fun pins s σ H D I z => h.run pins s σ H D I (q D σ H z)⟩
theorem PSs.mono {X : Cx} {e : List Stmt} {t t' : TS} (h : PSs X e t) (q : ∀ D σ H, t' D σ H → t D σ H) : PSs X e t' := ⟨fun pins s σ H D I z => h.run pins s σ H D I (q D σ H z)⟩

section
variable {g : G} {E : XK} {σ : L2.St} {ρ : Rho} {Γ : List (D × V)} {H : Hp}
theorem Post.mono {α : Type} {w w1 : Wd} {R : Wd → α → Prop} {r : Res α} {M' : Mem} (l : Le w w1) (h : Post g E w R r M') : Post g E w1 R r M' := by
  cases r with
  | ok a => exact fun w' e l' k => h w' e (l.trans l') k
  | exc c fs => exact fun w' o e l' k x => h w' o e (l.trans l') k x
/-- the next part of an expression -/
theorem At.bind {α : Type} {m : ME} {k : D → Mem → Out α} {R : Wd → α → Prop} (h : At g E σ ρ Γ H (fun M => bindR (m ρ M) k) R) :
    tM g E m σ H fun v H1 => ∃ d, At g E σ ρ ((d, v) :: Γ) H1 (k d) R := by
  obtain ⟨w, e, ok, sl, hΓ, r, M', hk, hp⟩ := h
  cases hm : m ρ w.M with
  | none => rw [show (fun M => bindR (m ρ M) k) w.M = bindR (m ρ w.M) k from rfl, hm] at hk; cases hk
  | some x =>
    obtain ⟨r1, M1⟩ := x
    have hk2 : bindR (some (r1, M1)) k = some (r, M') := by rw [← hm]; exact hk
    refine ⟨ρ, w, e, ok, sl, by simp, r1, M1, hm, ?_⟩
    cases r1 with
    | ok d => exact fun w1 e1 l1 k1 v hv => ⟨d, w1, rfl, k1, l1.slots ok sl, fun p hp1 => by
        rcases List.mem_cons.mp hp1 with rfl | hp1
        · exact hv
        · exact l1.denD ok (hΓ p hp1), r, M', by rw [e1]; exact hk2, hp.mono l1⟩
    | exc c fs =>
      have e2 : (Res.exc c fs : Res α) = r ∧ M1 = M' := by
        have := Option.some.inj (show some ((Res.exc c fs : Res α), M1) = some (r, M') from hk2)
        exact ⟨congrArg Prod.fst this, congrArg Prod.snd this⟩
      obtain ⟨rfl, rfl⟩ := e2
      exact hp
theorem At.bindA {α : Type} {m : MA} {k : List D → Mem → Out α} {R : Wd → α → Prop} (h : At g E σ ρ Γ H (fun M => bindR (m ρ M) k) R) :
    tMA g E m σ H fun vs H1 => ∃ ds, ds.length = vs.length ∧ At g E σ ρ (ds.zip vs ++ Γ) H1 (k ds) R := by
  obtain ⟨w, e, ok, sl, hΓ, r, M', hk, hp⟩ := h
  cases hm : m ρ w.M with
  | none => rw [show (fun M => bindR (m ρ M) k) w.M = bindR (m ρ w.M) k from rfl, hm] at hk; cases hk
  | some x =>
    obtain ⟨r1, M1⟩ := x
    have hk2 : bindR (some (r1, M1)) k = some (r, M') := by rw [← hm]; exact hk
    refine ⟨ρ, w, e, ok, sl, by simp, r1, M1, hm, ?_⟩
    cases r1 with
    | ok ds => exact fun w1 e1 l1 k1 vs hv => ⟨ds, hv.length, w1, rfl, k1, l1.slots ok sl, fun p hp1 => by
        rcases List.mem_append.mp hp1 with hp1 | hp1
        · have : ∀ {ds : List D} {vs : List V}, DenDs g w1 ds vs → ∀ p ∈ ds.zip vs, DenD g w1 p.1 p.2 := by
            intro ds vs q
            induction q with
            | nil => simp
            | cons r t ih =>
              intro p hp
              rcases List.mem_cons.mp hp with rfl | hp
              · exact r
              · exact ih p hp
          exact this hv p hp1
        · exact l1.denD ok (hΓ p hp1), r, M', by rw [e1]; exact hk2, hp.mono l1⟩
    | exc c fs =>
      have e2 : (Res.exc c fs : Res α) = r ∧ M1 = M' := by
        have := Option.some.inj (show some ((Res.exc c fs : Res α), M1) = some (r, M') from hk2)
        exact ⟨congrArg Prod.fst this, congrArg Prod.snd this⟩
      obtain ⟨rfl, rfl⟩ := e2
      exact hp
theorem At.bindT {α : Type} {m : Rho → Mem → Out Bool} {k : Bool → Mem → Out α} {R : Wd → α → Prop} (h : At g E σ ρ Γ H (fun M => bindR (m ρ M) k) R) :
    tMT g E m σ H fun b H1 => At g E σ ρ Γ H1 (k b) R := by
  obtain ⟨w, e, ok, sl, hΓ, r, M', hk, hp⟩ := h
  cases hm : m ρ w.M with
  | none => rw [show (fun M => bindR (m ρ M) k) w.M = bindR (m ρ w.M) k from rfl, hm] at hk; cases hk
  | some x =>
    obtain ⟨r1, M1⟩ := x
    have hk2 : bindR (some (r1, M1)) k = some (r, M') := by rw [← hm]; exact hk
    refine ⟨ρ, w, e, ok, sl, by simp, r1, M1, hm, ?_⟩
    cases r1 with
    | ok b => exact fun w1 e1 l1 k1 => ⟨w1, rfl, k1, l1.slots ok sl, fun p hp1 => l1.denD ok (hΓ p hp1), r, M', by rw [e1]; exact hk2, hp.mono l1⟩
    | exc c fs =>
      have e2 : (Res.exc c fs : Res α) = r ∧ M1 = M' := by
        have := Option.some.inj (show some ((Res.exc c fs : Res α), M1) = some (r, M') from hk2)
        exact ⟨congrArg Prod.fst this, congrArg Prod.snd this⟩
      obtain ⟨rfl, rfl⟩ := e2
      exact hp
/-- the end of an expression, nothing new -/
theorem At.ret {α : Type} {k : Mem → Out α} {R : Wd → α → Prop} (h : At g E σ ρ Γ H k R) {a : α} (e : ∀ M r M', k M = some (r, M') → r = .ok a ∧ M' = M) :
    ∃ w, w.H = H ∧ Ok g w ∧ (∀ p ∈ Γ, DenD g w p.1 p.2) ∧ R w a := by
  obtain ⟨w, e0, ok, sl, hΓ, r, M', hk, hp⟩ := h
  obtain ⟨rfl, rfl⟩ := e _ _ _ hk
  exact ⟨w, e0, ok, hΓ, hp w rfl (Le.refl w) ok⟩
end
end DL

set_option maxHeartbeats 4000000
namespace DL
open PySem PySem.Spec PyProof.Rows L2
section
variable {X : Cx} {g : G} {E : XK}

/-! ### new things -/
/-- a new frozen thing at p -/
def Wd.lay (w : Wd) (p : Addr) (o : HO) : Wd := ⟨fun a => w.F a ∨ a = p, w.io, w.M, upd w.H p o⟩
/-- a new thing of one's own at p -/
def Wd.put (w : Wd) (p : Addr) (o : HO) (m : MO) : Wd := ⟨w.F, w.io ++ [(p, p)], w.M ++ [m], upd w.H p o⟩
theorem Ok.ownH {w : Wd} (k : Ok g w) {a : Addr} (h : w.owns a) : w.H a ≠ none := by
  obtain ⟨⟨b, dx⟩, hp, ha⟩ := h
  obtain ⟨i, hi⟩ := List.getElem?_of_mem hp
  have hlt : i < w.M.length := by rw [← k.len]; exact (List.getElem?_eq_some_iff.mp hi).1
  have q := k.own i (b, dx) (w.M[i]) hi (List.getElem?_eq_getElem hlt)
  generalize w.M[i] = o at q
  cases o with
  | lst ds =>
    obtain ⟨e, xs, h1, _⟩ := q
    simp only at e ha
    rcases ha with ha | ha
    · rw [ha, h1]; simp
    · rw [ha, e, h1]; simp
  | tup ds =>
    obtain ⟨e, xs, h1, _⟩ := q
    simp only at e ha
    rcases ha with ha | ha
    · rw [ha, h1]; simp
    · rw [ha, e, h1]; simp
  | dic ks vs =>
    obtain ⟨e, xs, h1, _⟩ := q
    simp only at e ha
    rcases ha with ha | ha
    · rw [ha, h1]; simp
    · rw [ha, e, h1]; simp
  | ins c fs =>
    obtain ⟨xs, h1, h2, h3, _⟩ := q
    simp only at ha
    rcases ha with ha | ha
    · rw [ha]
      rcases h1 with h1 | h1
      · rw [h1.1]; simp
      · rw [h1.1]; simp
    · rw [ha]; exact h3
  | scr ds =>
    obtain ⟨e, xs, h1, _⟩ := q
    simp only at e ha
    have h2 : w.H b ≠ none := by
      rcases h1 with h1 | ⟨o, h1⟩ <;> rw [h1] <;> simp
    rcases ha with ha | ha
    · rw [ha]; exact h2
    · rw [ha, e]; exact h2
  | dead =>
    simp only at ha
    rcases ha with ha | ha
    · rw [ha]; exact q.1
    · rw [ha]; exact q.2
theorem lay_le {w : Wd} {p : Addr} {o : HO} (k : Ok g w) (hp : w.H p = none) : Le w (w.lay p o) where
  fm := fun a h => .inl h
  keep := fun a u h _ => by
    show upd w.H p o a = some u
    rw [upd_ne (ne_of_none h hp)]; exact h
  fnew := fun a h => by
    rcases h with h | rfl
    · exact .inl h
    · exact .inr hp
  alive := fun a h => by
    show upd w.H p o a ≠ none
    by_cases e : a = p
    · rw [e, upd_same]; simp
    · rw [upd_ne e]; exact h
  pre := ⟨[], by simp [Wd.lay], by simp⟩
theorem mden_mono {w w' : Wd} (l : Le w w') (k : Ok g w) {a dx : Addr} {m : MO} (ha : ∀ o, w.H a = some o → w'.H a = some o) (hx : ∀ o, w.H dx = some o → w'.H dx = some o) (h : MDen g w a dx m) : MDen g w' a dx m := by
  cases m with
  | lst ds =>
    obtain ⟨e, xs, h1, h2⟩ := h
    exact ⟨e, xs, ha _ h1, l.denDs k h2⟩
  | tup ds =>
    obtain ⟨e, xs, h1, h2⟩ := h
    exact ⟨e, xs, ha _ h1, l.denDs k h2⟩
  | dic ks vs =>
    obtain ⟨e, xs, h1, h0, h2⟩ := h
    exact ⟨e, xs, ha _ h1, h0, l.denDs k h2⟩
  | ins c fs =>
    obtain ⟨xs, h1, h2, h3, h4⟩ := h
    refine ⟨xs, ?_, h2, l.alive _ h3, fun i d e => ?_⟩
    · rcases h1 with h1 | h1
      · exact .inl ⟨ha _ h1.1, h1.2⟩
      · exact .inr ⟨ha _ h1.1, hx _ h1.2⟩
    · obtain ⟨x, e1, e2⟩ := h4 i d e
      exact ⟨x, e1, l.denD k e2⟩
  | scr ds =>
    obtain ⟨e, xs, h1, h2⟩ := h
    refine ⟨e, xs, ?_, l.denDs k h2⟩
    rcases h1 with h1 | ⟨o, h1⟩
    · exact .inl (ha _ h1)
    · exact .inr ⟨o, ha _ h1⟩
  | dead => exact ⟨l.alive _ h.1, l.alive _ h.2⟩
theorem lay_ok {w : Wd} {p : Addr} {o : HO} (k : Ok g w) (hp : w.H p = none) : Ok g (w.lay p o) where
  len := k.len
  nd := k.nd
  fdom := fun a h => by
    rcases h with h | rfl
    · exact (lay_le (o := o) k hp).alive a (k.fdom a h)
    · show upd w.H a o a ≠ none
      rw [upd_same]; simp
  disj := fun a h f => by
    rcases f with f | rfl
    · exact k.disj a h f
    · exact k.ownH h hp
  own := fun i q m h1 h2 => by
    have up : ∀ b u, w.H b = some u → (w.lay p o).H b = some u := fun b u e => by
      show upd w.H p o b = some u
      rw [upd_ne (ne_of_none e hp)]; exact e
    exact mden_mono (lay_le k hp) k (up _) (up _) (k.own i q m h1 h2)
theorem put_le {w : Wd} {p : Addr} {o : HO} {m : MO} (k : Ok g w) (hp : w.H p = none) : Le w (w.put p o m) where
  fm := fun a h => h
  keep := fun a u h _ => by
    show upd w.H p o a = some u
    rw [upd_ne (ne_of_none h hp)]; exact h
  fnew := fun a h => .inl h
  alive := fun a h => by
    show upd w.H p o a ≠ none
    by_cases e : a = p
    · rw [e, upd_same]; simp
    · rw [upd_ne e]; exact h
  pre := ⟨[(p, p)], rfl, by simp [hp]⟩
theorem put_ok {w : Wd} {p : Addr} {o : HO} {m : MO} (k : Ok g w) (hp : w.H p = none) (hm : MDen g (w.put p o m) p p m) : Ok g (w.put p o m) where
  len := by simp [Wd.put, k.len]
  nd := fun i j q r hi hj hne => by
    have hq : ∀ (i : Nat) q, w.io[i]? = some q → w.H q.1 ≠ none ∧ w.H q.2 ≠ none := fun i q h =>
      ⟨k.ownH ⟨q, List.mem_of_getElem? h, .inl rfl⟩, k.ownH ⟨q, List.mem_of_getElem? h, .inr rfl⟩⟩
    have cs : ∀ (i : Nat) q, (w.put p o m).io[i]? = some q → w.io[i]? = some q ∨ (i = w.io.length ∧ q = (p, p)) := fun i q h => by
      by_cases hl : i < w.io.length
      · left
        have h2 : (w.io ++ [(p, p)])[i]? = some q := h
        rw [List.getElem?_append_left hl] at h2
        exact h2
      · have h2 : (w.io ++ [(p, p)])[i]? = some q := h
        rw [List.getElem?_append_right (by omega)] at h2
        have hz := (List.getElem?_eq_some_iff.mp h2).1
        simp at hz
        have e : i = w.io.length := by omega
        subst e
        right
        simp at h2
        exact ⟨rfl, h2.symm⟩
    rcases cs i q hi with h1 | ⟨e1, rfl⟩ <;> rcases cs j r hj with h2 | ⟨e2, rfl⟩
    · exact k.nd i j q r h1 h2 hne
    · have z := hq i q h1
      exact ⟨fun e => z.1 (e ▸ hp), fun e => z.1 (e ▸ hp), fun e => z.2 (e ▸ hp), fun e => z.2 (e ▸ hp)⟩
    · have z := hq j r h2
      exact ⟨fun e => z.1 (by rw [← e]; exact hp), fun e => z.2 (by rw [← e]; exact hp), fun e => z.1 (by rw [← e]; exact hp), fun e => z.2 (by rw [← e]; exact hp)⟩
    · omega
  fdom := fun a h => (put_le (o := o) (m := m) k hp).alive a (k.fdom a h)
  disj := fun a h f => by
    rcases (put_le (o := o) (m := m) k hp).owns h with z | z
    · exact k.disj a z f
    · exact k.fdom a f z
  own := fun i q mo h1 h2 => by
    have up : ∀ b u, w.H b = some u → (w.put p o m).H b = some u := fun b u e => by
      show upd w.H p o b = some u
      rw [upd_ne (ne_of_none e hp)]; exact e
    have h1' : (w.io ++ [(p, p)])[i]? = some q := h1
    have h2' : (w.M ++ [m])[i]? = some mo := h2
    by_cases hl : i < w.io.length
    · rw [List.getElem?_append_left hl] at h1'
      rw [List.getElem?_append_left (by rw [← k.len]; exact hl)] at h2'
      exact mden_mono (put_le k hp) k (up _) (up _) (k.own i q mo h1' h2')
    · rw [List.getElem?_append_right (by omega)] at h1'
      rw [List.getElem?_append_right (by rw [← k.len]; omega)] at h2'
      have hz := (List.getElem?_eq_some_iff.mp h1').1
      simp at hz
      have e : i = w.io.length := by omega
      subst e
      simp at h1'
      rw [k.len] at h2'
      simp at h2'
      rw [← h1', ← h2']
      exact hm

/-! ### operations by values -/
abbrev O1 := D → Mem → Out D
abbrev O2 := D → D → Mem → Out D
abbrev On := List D → Mem → Out D
def Go (g : G) (E : XK) (w : Wd) (o : Out D) (Q : VK) : Prop := ∃ r M', o = some (r, M') ∧ Post g E w (RV g Q) r M'
def rD1 (g : G) (E : XK) (f : O1) : V → Hp → VK → Prop := fun x H Q => ∃ w d, w.H = H ∧ Ok g w ∧ DenD g w d x ∧ Go g E w (f d w.M) Q
def rD2 (g : G) (E : XK) (f : O2) : R2 := fun x y H Q => ∃ w d e, w.H = H ∧ Ok g w ∧ DenD g w d x ∧ DenD g w e y ∧ Go g E w (f d e w.M) Q
def rDn (g : G) (E : XK) (f : On) : List V → Hp → VK → Prop := fun xs H Q => ∃ w ds, w.H = H ∧ Ok g w ∧ DenDs g w ds xs ∧ Go g E w (f ds w.M) Q
/-- a rule of the layer serves what f does -/
def Sv2 (g : G) (E : XK) (f : O2) (r : R2) : Prop := ∀ w d e x y Q, Ok g w → DenD g w d x → DenD g w e y → Go g E w (f d e w.M) Q → r x y w.H Q
def Sv1 (g : G) (E : XK) (f : O1) (r : V → Hp → VK → Prop) : Prop := ∀ w d x Q, Ok g w → DenD g w d x → Go g E w (f d w.M) Q → r x w.H Q
def Svn (g : G) (E : XK) (f : On) (r : List V → Hp → VK → Prop) : Prop := ∀ w ds xs Q, Ok g w → DenDs g w ds xs → Go g E w (f ds w.M) Q → r xs w.H Q
theorem Sv2.op {F : Value → Value → Sem Value} {f : O2} {r : R2} (s : Sv2 g E f r) (h : OpR X F r) : OpR X F (rD2 g E f) :=
  fun pins sh σ H x y v u Q I rx ry ⟨w, d, e, hw, ok, h1, h2, go⟩ => h pins sh σ H x y v u Q I rx ry (by subst hw; exact s w d e x y Q ok h1 h2 go)
theorem Sv1.op {F : Value → Sem Value} {f : O1} {r : V → Hp → VK → Prop} (s : Sv1 g E f r) (h : UnR X F r) : UnR X F (rD1 g E f) :=
  fun pins sh σ H x v Q I rx ⟨w, d, hw, ok, h1, go⟩ => h pins sh σ H x v Q I rx (by subst hw; exact s w d x Q ok h1 go)
theorem Svn.op {F : Value} {f : On} {r : List V → Hp → VK → Prop} (s : Svn g E f r) (h : CallR X F r) : CallR X F (rDn g E f) :=
  fun pins sh σ H xs us Q I rx ⟨w, ds, hw, ok, h1, go⟩ => h pins sh σ H xs us Q I rx (by subst hw; exact s w ds xs Q ok h1 go)
/-- one of two -/
def orO {α : Type} (a b : Out α) : Out α := match a with
  | none => b
  | some x => some x
@[simp] theorem orO_none {α : Type} (b : Out α) : orO none b = b := rfl
@[simp] theorem orO_some {α : Type} (x : Res α × Mem) (b : Out α) : orO (some x) b = some x := rfl
theorem go_or {w : Wd} {a b : Out D} {Q : VK} (h : Go g E w (orO a b) Q) : Go g E w a Q ∨ Go g E w b Q := by
  cases a with
  | none => exact .inr h
  | some x => exact .inl h
theorem op2_or {F : Value → Value → Sem Value} {f f' : O2} (h : OpR X F (rD2 g E f)) (h' : OpR X F (rD2 g E f')) : OpR X F (rD2 g E fun d e M => orO (f d e M) (f' d e M)) :=
  fun pins sh σ H x y v u Q I rx ry ⟨w, d, e, hw, ok, h1, h2, go⟩ => by
    rcases go_or go with z | z
    · exact h pins sh σ H x y v u Q I rx ry ⟨w, d, e, hw, ok, h1, h2, z⟩
    · exact h' pins sh σ H x y v u Q I rx ry ⟨w, d, e, hw, ok, h1, h2, z⟩
theorem call_or {F : Value} {f f' : On} (h : CallR X F (rDn g E f)) (h' : CallR X F (rDn g E f')) : CallR X F (rDn g E fun ds M => orO (f ds M) (f' ds M)) :=
  fun pins sh σ H xs us Q I rx ⟨w, ds, hw, ok, h1, go⟩ => by
    rcases go_or go with z | z
    · exact h pins sh σ H xs us Q I rx ⟨w, ds, hw, ok, h1, z⟩
    · exact h' pins sh σ H xs us Q I rx ⟨w, ds, hw, ok, h1, z⟩
/-- upon data alone -/
def lift1 (f : P → Option P) : O1 := fun d M => match d with
  | .p a => match f a with
    | some c => some (.ok (.p c), M)
    | none => none
  | _ => none
def lift2 (f : P → P → Option P) : O2 := fun d e M => match d, e with
  | .p a, .p b => match f a b with
    | some c => some (.ok (.p c), M)
    | none => none
  | _, _ => none
def allP : List D → Option (List P)
  | [] => some []
  | .p a :: r => match allP r with
    | some s => some (a :: s)
    | none => none
  | .own _ :: _ => none
def liftn (f : List P → Option P) : On := fun ds M => match allP ds with
  | some ps => match f ps with
    | some c => some (.ok (.p c), M)
    | none => none
  | none => none
/-- what follows a datum -/
def Then (g : G) (w : Wd) (c : P) (Q : VK) : Prop := ∀ w' v, w'.M = w.M → Le w w' → Ok g w' → Den g w'.F w'.H c v → Q v w'.H
theorem Then.here {w : Wd} {c : P} {Q : VK} (t : Then g w c Q) (k : Ok g w) {v : V} (h : Den g w.F w.H c v) : Q v w.H := t w v rfl (Le.refl w) k h
theorem then_of {w : Wd} {c : P} {Q : VK} (go : Go g E w (some (.ok (.p c), w.M)) Q) : Then g w c Q := by
  obtain ⟨r, M', e, po⟩ := go
  have e1 := Option.some.inj e
  have e2 : Res.ok (D.p c) = r := congrArg Prod.fst e1
  have e3 : w.M = M' := congrArg Prod.snd e1
  subst e2 e3
  exact fun w' v hm l k h => po w' hm l k v h
theorem go_none {w : Wd} {Q : VK} (go : Go g E w none Q) : False := by
  obtain ⟨r, M', e, _⟩ := go
  cases e
theorem sv1_lift {f : P → Option P} {r : V → Hp → VK → Prop} (h : ∀ a c, f a = some c → ∀ w x Q, Ok g w → Den g w.F w.H a x → Then g w c Q → r x w.H Q) : Sv1 g E (lift1 f) r := by
  intro w d x Q k h1 go
  cases d with
  | own n => exact (go_none go).elim
  | p a =>
    unfold lift1 at go
    simp only at go
    cases hf : f a with
    | none => rw [hf] at go; exact (go_none go).elim
    | some c =>
      rw [hf] at go
      exact h a c hf w x Q k h1 (then_of go)
theorem sv2_lift {f : P → P → Option P} {r : R2} (h : ∀ a b c, f a b = some c → ∀ w x y Q, Ok g w → Den g w.F w.H a x → Den g w.F w.H b y → Then g w c Q → r x y w.H Q) : Sv2 g E (lift2 f) r := by
  intro w d e x y Q k h1 h2 go
  cases d with
  | own n => exact (go_none go).elim
  | p a =>
    cases e with
    | own n => exact (go_none go).elim
    | p b =>
      unfold lift2 at go
      simp only at go
      cases hf : f a b with
      | none => rw [hf] at go; exact (go_none go).elim
      | some c =>
        rw [hf] at go
        exact h a b c hf w x y Q k h1 h2 (then_of go)
theorem denL_of {w : Wd} : ∀ {ds : List D} {ps : List P} {xs : List V}, allP ds = some ps → DenDs g w ds xs → DenL g w.F w.H ps xs
  | [], ps, xs, e, h => by
    have : ps = [] := by simpa [allP] using e.symm
    subst this
    cases h
    rfl
  | .p a :: r, ps, xs, e, h => by
    cases h with
    | cons h1 h2 =>
      unfold allP at e
      cases hr : allP r with
      | none => rw [hr] at e; cases e
      | some s =>
        rw [hr] at e
        have : a :: s = ps := Option.some.inj e
        subst this
        unfold DenL
        exact ⟨_, _, rfl, h1, denL_of hr h2⟩
  | .own n :: r, ps, xs, e, h => by simp [allP] at e
theorem svn_lift {f : List P → Option P} {r : List V → Hp → VK → Prop} (h : ∀ ps c, f ps = some c → ∀ w xs Q, Ok g w → DenL g w.F w.H ps xs → Then g w c Q → r xs w.H Q) : Svn g E (liftn f) r := by
  intro w ds xs Q k h1 go
  unfold liftn at go
  cases hp : allP ds with
  | none => rw [hp] at go; exact (go_none go).elim
  | some ps =>
    rw [hp] at go
    simp only at go
    cases hf : f ps with
    | none => rw [hf] at go; exact (go_none go).elim
    | some c =>
      rw [hf] at go
      exact h ps c hf w xs Q k (denL_of hp h1) (then_of go)

/-! ### expressions -/
theorem tM_imp {m : ME} {σ : L2.St} {H : Hp} {Q Q' : VK} (h : tM g E m σ H Q) (q : ∀ v H', Q v H' → Q' v H') : tM g E m σ H Q' := by
  obtain ⟨ρ, w, e, ok, sl, hΓ, r, M', hk, hp⟩ := h
  refine ⟨ρ, w, e, ok, sl, hΓ, r, M', hk, ?_⟩
  cases r with
  | ok a => exact fun w' e l k v hv => q _ _ (hp w' e l k v hv)
  | exc c fs => exact hp
theorem tMA_imp {m : MA} {σ : L2.St} {H : Hp} {Q Q' : List V → Hp → Prop} (h : tMA g E m σ H Q) (q : ∀ v H', Q v H' → Q' v H') : tMA g E m σ H Q' := by
  obtain ⟨ρ, w, e, ok, sl, hΓ, r, M', hk, hp⟩ := h
  refine ⟨ρ, w, e, ok, sl, hΓ, r, M', hk, ?_⟩
  cases r with
  | ok a => exact fun w' e l k v hv => q _ _ (hp w' e l k v hv)
  | exc c fs => exact hp
theorem tMT_imp {m : Rho → Mem → Out Bool} {σ : L2.St} {H : Hp} {Q Q' : Bool → Hp → Prop} (h : tMT g E m σ H Q) (q : ∀ v H', Q v H' → Q' v H') : tMT g E m σ H Q' := by
  obtain ⟨ρ, w, e, ok, sl, hΓ, r, M', hk, hp⟩ := h
  refine ⟨ρ, w, e, ok, sl, hΓ, r, M', hk, ?_⟩
  cases r with
  | ok a => exact fun w' e l k => q _ _ (hp w' e l k)
  | exc c fs => exact hp
def eVar (i : Nat) : ME := fun ρ M => match ρ[i]? with
  | some (some d) => some (.ok d, M)
  | _ => none
def eC (c : P) : ME := fun _ M => some (.ok (.p c), M)
def eOp (f : O2) (a b : ME) : ME := fun ρ M => bindR (a ρ M) fun x M => bindR (b ρ M) fun y M => f x y M
def eUn (f : O1) (a : ME) : ME := fun ρ M => bindR (a ρ M) fun x M => f x M
theorem d_var {e : Expr} {i : Nat} (h : PE X e (tVar i)) : PE X e (tM g E (eVar i)) := PE.mono h fun σ H Q ⟨ρ, w, hw, ok, sl, _, r, M', hk, hp⟩ => by
  unfold eVar at hk
  split at hk
  · rename_i d hd
    obtain ⟨v, e1, e2⟩ := sl.get hd
    have e3 := Option.some.inj hk
    have e4 : Res.ok d = r := congrArg Prod.fst e3
    have e5 : w.M = M' := congrArg Prod.snd e3
    subst e4 e5 hw
    exact ⟨v, e1, hp w rfl (Le.refl w) ok v e2⟩
  · cases hk
theorem d_c {e : Expr} {c : P} {v : V} (h : PE X e (tC v)) (hv : ∀ w : Wd, Den g w.F w.H c v) : PE X e (tM g E (eC c)) := PE.mono h fun σ H Q ⟨ρ, w, hw, ok, sl, _, r, M', hk, hp⟩ => by
  have e3 := Option.some.inj hk
  have e4 : Res.ok (D.p c) = r := congrArg Prod.fst e3
  have e5 : w.M = M' := congrArg Prod.snd e3
  subst e4 e5 hw
  exact hp w rfl (Le.refl w) ok v (hv w)
theorem d_int {i j pos} : PE X (.Constant (.int i) j pos) (tM g E (eC (.int i))) := d_c pe_int fun _ => rfl
theorem d_bl {b j pos} : PE X (.Constant (.bool b) j pos) (tM g E (eC (.bl b))) := d_c pe_bl fun _ => rfl
theorem d_non {j pos} : PE X (.Constant .none j pos) (tM g E (eC .non)) := d_c pe_non fun _ => rfl
theorem d_str {x j pos} : PE X (.Constant (.str x) j pos) (tM g E (eC (.str x))) := d_c pe_str fun _ => rfl
theorem d_globI {x : Str} {i : Int} {t : Tok} {pos : Pos} (hg : Gl X x) (hm : X.mg x = some (.int i t)) (hd : (x == ("__debug__" : Str)) = false := by decide) : PE X (.Name x pos) (tM g E (eC (.int i))) :=
  d_c (pe_glob (v := .int i) hg hm ⟨_, rfl⟩ hd) fun _ => rfl
theorem at_go1 {σ : L2.St} {ρ : Rho} {H : Hp} {d : D} {v : V} {Γ : List (D × V)} {k : Mem → Out D} {Q : VK} (h : At g E σ ρ ((d, v) :: Γ) H k (RV g Q)) : ∃ w, w.H = H ∧ Ok g w ∧ DenD g w d v ∧ Go g E w (k w.M) Q := by
  obtain ⟨w, e, ok, sl, hΓ, r, M', hk, hp⟩ := h
  exact ⟨w, e, ok, hΓ _ (List.mem_cons_self ..), r, M', hk, hp⟩
theorem at_go2 {σ : L2.St} {ρ : Rho} {H : Hp} {d e : D} {v u : V} {Γ : List (D × V)} {k : Mem → Out D} {Q : VK} (h : At g E σ ρ ((e, u) :: (d, v) :: Γ) H k (RV g Q)) : ∃ w, w.H = H ∧ Ok g w ∧ DenD g w d v ∧ DenD g w e u ∧ Go g E w (k w.M) Q := by
  obtain ⟨w, e, ok, sl, hΓ, r, M', hk, hp⟩ := h
  exact ⟨w, e, ok, hΓ (_, _) (by simp), hΓ (_, _) (by simp), r, M', hk, hp⟩
theorem op_two {f : O2} {ma mb : ME} {σ : L2.St} {H : Hp} {Q : VK} (h : tM g E (eOp f ma mb) σ H Q) : tM g E ma σ H fun x H1 => tM g E mb σ H1 fun y H2 => rD2 g E f x y H2 Q := by
  obtain ⟨ρ, h⟩ := h
  refine tM_imp (At.bind h) fun x H1 ⟨d, h1⟩ => ?_
  refine tM_imp (At.bind h1) fun y H2 ⟨e, h2⟩ => ?_
  obtain ⟨w, e1, ok, a1, a2, go⟩ := at_go2 h2
  exact ⟨w, d, e, e1, ok, a1, a2, go⟩
theorem d_op {a b : Expr} {op : Operator} {f : O2} {ma mb : ME} {pos : Pos} (ho : OpR X (binaryOp op) (rD2 g E f)) (ha : PE X a (tM g E ma)) (hb : PE X b (tM g E mb)) : PE X (.BinOp a op b pos) (tM g E (eOp f ma mb)) :=
  PE.mono (pe_op ho ha hb) fun σ H Q h => op_two h
theorem d_cmp {a b : Expr} {op : CmpOp} {f : O2} {ma mb : ME} {pos : Pos} (ho : OpR X (compareOp op) (rD2 g E f)) (ha : PE X a (tM g E ma)) (hb : PE X b (tM g E mb)) (hm : behindInMarks op b = false) : PE X (.Compare a [op] [b] pos) (tM g E (eOp f ma mb)) :=
  PE.mono (pe_cmpR ho ha hb hm) fun σ H Q h => op_two h
theorem d_un {a : Expr} {op : UnaryOp} {f : O1} {ma : ME} {pos : Pos} (ho : UnR X (unaryOp op) (rD1 g E f)) (ha : PE X a (tM g E ma)) : PE X (.UnaryOp op a pos) (tM g E (eUn f ma)) :=
  PE.mono (pe_un ho ha) fun σ H Q ⟨ρ, h⟩ => tM_imp (At.bind h) fun x H1 ⟨d, h1⟩ => by
    obtain ⟨w, e1, ok, a1, go⟩ := at_go1 h1
    exact ⟨w, d, e1, ok, a1, go⟩

/-! ### argument lists -/
def aNil : MA := fun _ M => some (.ok [], M)
def aCons (a : ME) (r : MA) : MA := fun ρ M => bindR (a ρ M) fun x M => bindR (r ρ M) fun xs M => some (.ok (x :: xs), M)
theorem da_nil : PA X [] (tMA g E aNil) := PA.mono pa_nil fun σ H Q ⟨ρ, w, hw, ok, sl, _, r, M', hk, hp⟩ => by
  have e3 := Option.some.inj hk
  have e4 : Res.ok ([] : List D) = r := congrArg Prod.fst e3
  have e5 : w.M = M' := congrArg Prod.snd e3
  subst e4 e5 hw
  exact hp w rfl (Le.refl w) ok [] .nil
theorem zipDen {w : Wd} : ∀ {ds : List D} {vs : List V}, ds.length = vs.length → (∀ p ∈ ds.zip vs, DenD g w p.1 p.2) → DenDs g w ds vs
  | [], [], _, _ => .nil
  | d :: ds, v :: vs, e, h => .cons (h (d, v) (by simp)) (zipDen (by simpa using e) fun p hp => h p (by simp [hp]))
  | [], _ :: _, e, _ => by simp at e
  | _ :: _, [], e, _ => by simp at e
theorem da_cons {e : Expr} {es : List Expr} {a : ME} {r : MA} (ha : PE X e (tM g E a)) (hr : PA X es (tMA g E r)) (hs : starEach (e :: es) X.env = (false, eval e X.env) :: starEach es X.env := by rfl) : PA X (e :: es) (tMA g E (aCons a r)) :=
  PA.mono (pa_cons ha hr hs) fun σ H Q ⟨ρ, h⟩ => tM_imp (At.bind h) fun x H1 ⟨d, h1⟩ => tMA_imp (At.bindA h1) fun xs H2 ⟨ds, hl, h2⟩ => by
    obtain ⟨w, e1, ok, sl, hΓ, r, M', hk, hp⟩ := h2
    have e3 := Option.some.inj hk
    have e4 : Res.ok (d :: ds) = r := congrArg Prod.fst e3
    have e5 : w.M = M' := congrArg Prod.snd e3
    subst e4 e5 e1
    refine hp w rfl (Le.refl w) ok (x :: xs) (.cons (hΓ (d, x) (by simp)) (zipDen hl fun p hp => hΓ p (by simp [hp])))
end
end DL

set_option maxHeartbeats 4000000
namespace DL
open PySem PySem.Spec PyProof.Rows L2
section
variable {X : Cx} {g : G} {E : XK} {σ : L2.St} {ρ : Rho} {Γ : List (D × V)} {H : Hp}

/-! ### an operation within -/
theorem out_split {α β : Type} {o : Out α} {k : α → Mem → Out β} {r : Res β} {M' : Mem} (h : bindR o k = some (r, M')) :
    (∃ a M1, o = some (.ok a, M1) ∧ k a M1 = some (r, M')) ∨ ∃ c fs, o = some (.exc c fs, M') ∧ r = .exc c fs := by
  cases o with
  | none => cases h
  | some x =>
    obtain ⟨r1, M1⟩ := x
    cases r1 with
    | ok a => exact .inl ⟨a, M1, rfl, h⟩
    | exc c fs =>
      right
      have e := Option.some.inj (show some ((Res.exc c fs : Res β), M1) = some (r, M') from h)
      have e1 : Res.exc c fs = r := congrArg Prod.fst e
      have e2 : M1 = M' := congrArg Prod.snd e
      subst e1 e2
      exact ⟨c, fs, rfl, rfl⟩
/-- an operation's end, then what is left -/
theorem At.go {α : Type} {w : Wd} {o : Out D} {k : D → Mem → Out α} {R : Wd → α → Prop} {r : Res α} {M' : Mem} (ok : Ok g w) (sl : Slots g w ρ σ) (hΓ : ∀ p ∈ Γ, DenD g w p.1 p.2) (hk : bindR o k = some (r, M')) (hp : Post g E w R r M') :
    Go g E w o fun v H1 => ∃ d, At g E σ ρ ((d, v) :: Γ) H1 (k d) R := by
  rcases out_split hk with ⟨a, M1, e1, e2⟩ | ⟨c, fs, e1, e2⟩
  · refine ⟨_, _, e1, fun w1 em l1 k1 v hv => ⟨a, w1, rfl, k1, l1.slots ok sl, fun p hp1 => ?_, r, M', by rw [em]; exact e2, hp.mono l1⟩⟩
    rcases List.mem_cons.mp hp1 with rfl | hp1
    · exact hv
    · exact l1.denD ok (hΓ p hp1)
  · subst e2
    exact ⟨_, _, e1, hp⟩
theorem At.op2 {α : Type} {f : O2} {d e : D} {v u : V} {k : D → Mem → Out α} {R : Wd → α → Prop} (h : At g E σ ρ Γ H (fun M => bindR (f d e M) k) R) (m1 : (d, v) ∈ Γ) (m2 : (e, u) ∈ Γ) :
    rD2 g E f v u H fun z H1 => ∃ c, At g E σ ρ ((c, z) :: Γ) H1 (k c) R := by
  obtain ⟨w, e1, ok, sl, hΓ, r, M', hk, hp⟩ := h
  exact ⟨w, d, e, e1, ok, hΓ _ m1, hΓ _ m2, At.go ok sl hΓ hk hp⟩
theorem At.op1 {α : Type} {f : O1} {d : D} {v : V} {k : D → Mem → Out α} {R : Wd → α → Prop} (h : At g E σ ρ Γ H (fun M => bindR (f d M) k) R) (m1 : (d, v) ∈ Γ) :
    rD1 g E f v H fun z H1 => ∃ c, At g E σ ρ ((c, z) :: Γ) H1 (k c) R := by
  obtain ⟨w, e1, ok, sl, hΓ, r, M', hk, hp⟩ := h
  exact ⟨w, d, e1, ok, hΓ _ m1, At.go ok sl hΓ hk hp⟩
/-- an end with a value in hand -/
theorem At.fin {d : D} {v : V} {Q : VK} (h : At g E σ ρ Γ H (fun M => some (.ok d, M)) (RV g Q)) (m : (d, v) ∈ Γ) : Q v H := by
  obtain ⟨w, e1, ok, sl, hΓ, r, M', hk, hp⟩ := h
  have e3 := Option.some.inj hk
  have e4 : Res.ok d = r := congrArg Prod.fst e3
  have e5 : w.M = M' := congrArg Prod.snd e3
  subst e4 e5 e1
  exact hp w rfl (Le.refl w) ok v (hΓ _ m)
theorem At.none {α : Type} {R : Wd → α → Prop} (h : At g E σ ρ Γ H (fun _ => none) R) : False := by
  obtain ⟨w, e1, ok, sl, hΓ, r, M', hk, hp⟩ := h
  cases hk
/-- what is in hand is a truth value, if it is said to be one -/
theorem At.den {α : Type} {k : Mem → Out α} {R : Wd → α → Prop} (h : At g E σ ρ Γ H k R) {p : P} {v : V} (m : (D.p p, v) ∈ Γ) : ∃ w, w.H = H ∧ Ok g w ∧ Den g w.F w.H p v := by
  obtain ⟨w, e1, ok, sl, hΓ, r, M', hk, hp⟩ := h
  exact ⟨w, e1, ok, hΓ _ m⟩

/-! ### truth -/
def truP : P → Option Bool
  | .non => some false
  | .bl b => some b
  | .int i => some (i != 0)
  | .str x => if x.length ≤ sizeLine then some ((x.length : Int) != 0) else none
  | .tup xs => some (!xs.isEmpty)
  | .lst xs => some (!xs.isEmpty)
  | _ => none
def truD (d : D) (M : Mem) : Option Bool := match d with
  | .p x => truP x
  | .own n => match M[n]? with
    | some (.lst xs) => some (!xs.isEmpty)
    | some (.dic ks _) => some (!ks.isEmpty)
    | _ => none
theorem denL_len {F : Addr → Prop} {H : Hp} : ∀ {ds : List P} {vs : List V}, DenL g F H ds vs → ds.length = vs.length
  | [], vs, h => by
    unfold DenL at h; subst h; rfl
  | d :: ds, vs, h => by
    unfold DenL at h
    obtain ⟨x, r, rfl, _, h2⟩ := h
    simp [denL_len h2]
theorem isEmpty_len {α β : Type} {xs : List α} {ys : List β} (h : xs.length = ys.length) : xs.isEmpty = ys.isEmpty := by
  cases xs <;> cases ys <;> simp_all
theorem own_at {w : Wd} (ok : Ok g w) {n : Nat} {v : V} {m : MO} (h : DenD g w (.own n) v) (hm : w.M[n]? = some m) : ∃ a dx, v = .ref a ∧ w.io[n]? = some (a, dx) ∧ MDen g w a dx m := by
  obtain ⟨a, dx, e, q⟩ := h
  exact ⟨a, dx, e, q, ok.own n (a, dx) m q hm⟩
theorem tru_den {w : Wd} {d : D} {v : V} {b : Bool} (hK : X.K = g.K) (ok : Ok g w) (h : DenD g w d v) (e : truD d w.M = some b) : TruV X.K v w.H b := by
  rw [hK]
  cases d with
  | p x =>
    have e' : truP x = some b := e
    have h' : Den g w.F w.H x v := h
    cases x with
    | non => unfold Den at h'; subst h'; exact (Option.some.inj e').symm
    | bl c => unfold Den at h'; subst h'; exact (Option.some.inj e').symm
    | int c => unfold Den at h'; subst h'; exact (Option.some.inj e').symm
    | str c =>
      unfold Den at h'; subst h'
      have e2 : (if c.length ≤ sizeLine then some ((c.length : Int) != 0) else Option.none) = some b := e'
      split at e2
      · rename_i hl
        exact ⟨hl, (Option.some.inj e2).symm⟩
      · cases e2
    | tup xs =>
      unfold Den at h'
      obtain ⟨a, ys, rfl, r, q⟩ := h'
      exact .inr (.inl ⟨ys, r.sq, by rw [← isEmpty_len (denL_len q)]; exact (Option.some.inj e').symm⟩)
    | lst xs =>
      unfold Den at h'
      obtain ⟨a, ys, rfl, r, q⟩ := h'
      exact .inl ⟨ys, r.sq, by rw [← isEmpty_len (denL_len q)]; exact (Option.some.inj e').symm⟩
    | obj c fs => cases e'
    | dic ks vs => cases e'
    | ty n => cases e'
    | cls n => cases e'
  | own n =>
    unfold truD at e
    simp only at e
    split at e
    · rename_i xs hm
      obtain ⟨a, dx, rfl, _, hd, ys, h1, h2⟩ := own_at ok h hm
      exact .inl ⟨ys, SqL.of h1, by rw [← isEmpty_len h2.length]; exact (Option.some.inj e).symm⟩
    · rename_i ks vs hm
      obtain ⟨a, dx, rfl, _, hd, ys, h1, h0, h2⟩ := own_at ok h hm
      refine .inr (.inr ⟨_, h1, ?_⟩)
      rw [← Option.some.inj e]
      cases ks with
      | nil => rfl
      | cons k ks => cases ys with
        | nil => simp at h0
        | cons y ys => rfl
    · cases e
def tru (m : ME) : Rho → Mem → Out Bool := fun ρ M => bindR (m ρ M) fun d M => match truD d M with
  | some b => some (.ok b, M)
  | none => none
theorem At.tru {α : Type} {d : D} {v : V} {k : Bool → Mem → Out α} {R : Wd → α → Prop} (hK : X.K = g.K) (h : At g E σ ρ Γ H (fun M => match truD d M with
  | some b => k b M
  | Option.none => (Option.none : Out α)) R) (m : (d, v) ∈ Γ) : ∃ b, TruV X.K v H b ∧ At g E σ ρ Γ H (k b) R := by
  obtain ⟨w, e1, ok, sl, hΓ, r, M', hk, hp⟩ := h
  simp only at hk
  split at hk
  · rename_i b hb
    subst e1
    exact ⟨b, tru_den hK ok (hΓ _ m) hb, w, rfl, ok, sl, hΓ, r, M', hk, hp⟩
  · cases hk
theorem At.finB {b : Bool} {Q : Bool → Hp → Prop} (h : At g E σ ρ Γ H (fun M => some (.ok b, M)) (RB Q)) : Q b H := by
  obtain ⟨w, e1, ok, sl, hΓ, r, M', hk, hp⟩ := h
  have e3 := Option.some.inj hk
  have e4 : Res.ok b = r := congrArg Prod.fst e3
  have e5 : w.M = M' := congrArg Prod.snd e3
  subst e4 e5 e1
  exact hp w rfl (Le.refl w) ok
theorem At.eq {α : Type} {k k' : Mem → Out α} {R : Wd → α → Prop} (h : At g E σ ρ Γ H k R) (e : ∀ M, k M = k' M) : At g E σ ρ Γ H k' R := by
  have : k = k' := funext e
  rw [← this]; exact h
theorem dt_tru {e : Expr} {m : ME} (h : PE X e (tM g E m)) (hK : X.K = g.K := by rfl) (he : ∀ whole, isTrue e X.env whole = (do let v ← whole; standAt e.pos; holding [v] (truthy v)) := by intro _; rfl) : PT X e (tMT g E (tru m)) :=
  PT.mono (pt_truth h he) fun σ H Q ⟨ρ, h1⟩ => tM_imp (At.bind h1) fun v H1 ⟨d, h2⟩ => by
    obtain ⟨b, h3, h4⟩ := At.tru hK h2 (List.mem_cons_self ..)
    exact ⟨b, h3, h4.finB⟩
/-- a truth value as a test, by a comparison -/
def bolD (d : D) (M : Mem) : Out Bool := match d with
  | .p (.bl b) => some (.ok b, M)
  | _ => none
def tCmp (f : O2) (a b : ME) : Rho → Mem → Out Bool := fun ρ M => bindR (eOp f a b ρ M) bolD
theorem At.bol {α : Type} {d : D} {v : V} {k : Bool → Mem → Out α} {R : Wd → α → Prop} (h : At g E σ ρ Γ H (fun M => bindR (bolD d M) k) R) (m : (d, v) ∈ Γ) : ∃ b, v = .bl b ∧ At g E σ ρ Γ H (k b) R := by
  obtain ⟨w, e1, ok, sl, hΓ, r, M', hk, hp⟩ := h
  cases d with
  | own n => cases hk
  | p x =>
    cases x with
    | bl b => exact ⟨b, hΓ _ m, w, e1, ok, sl, hΓ, r, M', hk, hp⟩
    | _ => cases hk
theorem bindR_assoc {α β γ : Type} (x : Out α) (f : α → Mem → Out β) (k : β → Mem → Out γ) : bindR (bindR x f) k = bindR x fun a M => bindR (f a M) k := by
  cases x with
  | none => rfl
  | some y =>
    obtain ⟨r, M⟩ := y
    cases r <;> rfl
theorem bindR_pure {α : Type} (x : Out α) : bindR x (fun a M => some (.ok a, M)) = x := by
  cases x with
  | none => rfl
  | some y =>
    obtain ⟨r, M⟩ := y
    cases r <;> rfl
theorem dt_cmp {a b : Expr} {op : CmpOp} {f : O2} {ma mb : ME} {pos : Pos} (ho : OpR X (compareOp op) (rD2 g E f)) (ha : PE X a (tM g E ma)) (hb : PE X b (tM g E mb)) (hm : behindInMarks op b = false) : PT X (.Compare a [op] [b] pos) (tMT g E (tCmp f ma mb)) :=
  PT.mono (pt_cmpR ho ha hb hm) fun σ H Q ⟨ρ, h⟩ => by
    have h' : At g E σ ρ [] H (fun M => bindR (ma ρ M) fun x M => bindR (mb ρ M) fun y M => bindR (f x y M) bolD) (RB Q) := h.eq fun M => by
      unfold tCmp eOp
      rw [bindR_assoc]
      congr 1
      funext x M
      rw [bindR_assoc]
    refine tM_imp (At.bind h') fun x H1 ⟨d, h1⟩ => ?_
    refine tM_imp (At.bind h1) fun y H2 ⟨e, h2⟩ => ?_
    obtain ⟨w, d1, d2, z1, z2, z3, z4, r, M', z5, z6⟩ := At.op2 (v := x) (u := y) h2 (by simp) (by simp)
    refine ⟨w, d1, d2, z1, z2, z3, z4, r, M', z5, ?_⟩
    cases r with
    | exc c fs => exact z6
    | ok a =>
      intro w' hw l k v hv
      obtain ⟨c, h3⟩ := z6 w' hw l k v hv
      have h4 : At g E σ ρ ((c, v) :: (e, y) :: (d, x) :: []) w'.H (fun M => bindR (bolD c M) fun b M => some (.ok b, M)) (RB Q) := h3.eq fun M => by rw [bindR_pure]
      obtain ⟨b, e1, h5⟩ := At.bol h4 (List.mem_cons_self ..)
      exact ⟨b, e1, h5.finB⟩
def tNotM (t : Rho → Mem → Out Bool) : Rho → Mem → Out Bool := fun ρ M => bindR (t ρ M) fun b M => some (.ok (!b), M)
def tAndM (t u : Rho → Mem → Out Bool) : Rho → Mem → Out Bool := fun ρ M => bindR (t ρ M) fun b M => if b then u ρ M else some (.ok false, M)
def tOrM (t u : Rho → Mem → Out Bool) : Rho → Mem → Out Bool := fun ρ M => bindR (t ρ M) fun b M => if b then some (.ok true, M) else u ρ M
theorem dt_not {a : Expr} {t : Rho → Mem → Out Bool} {pos : Pos} (h : PT X a (tMT g E t)) : PT X (.UnaryOp .Not a pos) (tMT g E (tNotM t)) :=
  PT.mono (pt_not h) fun σ H Q ⟨ρ, h⟩ => tMT_imp (At.bindT h) fun b H1 h1 => h1.finB
theorem dw_and1 {a : Expr} {t : Rho → Mem → Out Bool} {pos : Pos} (h : PT X a (tMT g E t)) : PW X (.BoolOp .And [a] pos) (tMT g E t) := pw_and1 h
theorem dw_or1 {a : Expr} {t : Rho → Mem → Out Bool} {pos : Pos} (h : PT X a (tMT g E t)) : PW X (.BoolOp .Or [a] pos) (tMT g E t) := pw_or1 h
theorem PW.mono {e : Expr} {t t' : TT} (h : PW X e t) (q : ∀ σ H Q, t' σ H Q → t σ H Q) : PW X e t' := ⟨fun wh pins s σ H Q I z => h.run wh pins s σ H Q I (q σ H Q z)⟩
theorem at_some {m : Rho → Mem → Out Bool} {Q : Bool → Hp → Prop} (h : At g E σ ρ Γ H (m ρ) (RB Q)) : tMT g E m σ H Q := by
  obtain ⟨w, e1, ok, sl, hΓ, r, M', hk, hp⟩ := h
  exact ⟨ρ, w, e1, ok, sl, by simp, r, M', hk, hp⟩
theorem at_someE {m : ME} {Q : VK} (h : At g E σ ρ Γ H (m ρ) (RV g Q)) : tM g E m σ H Q := by
  obtain ⟨w, e1, ok, sl, hΓ, r, M', hk, hp⟩ := h
  exact ⟨ρ, w, e1, ok, sl, by simp, r, M', hk, hp⟩
theorem dw_and {a b : Expr} {rest : List Expr} {t u : Rho → Mem → Out Bool} {pos : Pos} (h : PT X a (tMT g E t)) (h' : PW X (.BoolOp .And (b :: rest) pos) (tMT g E u)) : PW X (.BoolOp .And (a :: b :: rest) pos) (tMT g E (tAndM t u)) :=
  PW.mono (pw_and h h') fun σ H Q ⟨ρ, h⟩ => tMT_imp (At.bindT h) fun b H1 h1 => by
    cases b with
    | true => exact iteT (at_some h1)
    | false => exact iteF h1.finB
theorem dw_or {a b : Expr} {rest : List Expr} {t u : Rho → Mem → Out Bool} {pos : Pos} (h : PT X a (tMT g E t)) (h' : PW X (.BoolOp .Or (b :: rest) pos) (tMT g E u)) : PW X (.BoolOp .Or (a :: b :: rest) pos) (tMT g E (tOrM t u)) :=
  PW.mono (pw_or h h') fun σ H Q ⟨ρ, h⟩ => tMT_imp (At.bindT h) fun b H1 h1 => by
    cases b with
    | true => exact iteT h1.finB
    | false => exact iteF (at_some h1)
/-! ### values by tests -/
def eIf (t : Rho → Mem → Out Bool) (a b : ME) : ME := fun ρ M => bindR (t ρ M) fun c M => if c then a ρ M else b ρ M
theorem d_if {c a b : Expr} {t : Rho → Mem → Out Bool} {ma mb : ME} {pos : Pos} (hc : PT X c (tMT g E t)) (ha : PE X a (tM g E ma)) (hb : PE X b (tM g E mb)) : PE X (.IfExp c a b pos) (tM g E (eIf t ma mb)) :=
  PE.mono (pe_ifExp hc ha hb) fun σ H Q ⟨ρ, h⟩ => tMT_imp (At.bindT h) fun b H1 h1 => by
    cases b with
    | true => exact iteT (at_someE h1)
    | false => exact iteF (at_someE h1)
def eAnd (a b : ME) : ME := fun ρ M => bindR (a ρ M) fun x M => match truD x M with
  | some c => if c then b ρ M else some (.ok x, M)
  | none => none
def eOr (a b : ME) : ME := fun ρ M => bindR (a ρ M) fun x M => match truD x M with
  | some c => if c then some (.ok x, M) else b ρ M
  | none => none
def notD (x : D) (M : Mem) : Out D := match truD x M with
  | some c => some (.ok (.p (.bl (!c))), M)
  | none => none
theorem d_one {a : Expr} {op : BoolOp} {ma : ME} {pos : Pos} (ha : PE X a (tM g E ma)) : PE X (.BoolOp op [a] pos) (tM g E ma) := pe_one ha
theorem d_and {a b : Expr} {rest : List Expr} {ma mb : ME} {pos : Pos} (ha : PE X a (tM g E ma)) (hb : PE X (.BoolOp .And (b :: rest) pos) (tM g E mb)) (hK : X.K = g.K := by rfl) : PE X (.BoolOp .And (a :: b :: rest) pos) (tM g E (eAnd ma mb)) :=
  PE.mono (pe_andT ha hb) fun σ H Q ⟨ρ, h⟩ => tM_imp (At.bind h) fun v H1 ⟨d, h1⟩ => by
    obtain ⟨c, h2, h3⟩ := At.tru (k := fun c M => if c then mb ρ M else some (.ok d, M)) hK h1 (List.mem_cons_self ..)
    refine ⟨c, h2, ?_⟩
    cases c with
    | true => exact iteT (at_someE h3)
    | false => exact iteF (h3.fin (List.mem_cons_self ..))
theorem d_or {a b : Expr} {rest : List Expr} {ma mb : ME} {pos : Pos} (ha : PE X a (tM g E ma)) (hb : PE X (.BoolOp .Or (b :: rest) pos) (tM g E mb)) (hK : X.K = g.K := by rfl) : PE X (.BoolOp .Or (a :: b :: rest) pos) (tM g E (eOr ma mb)) :=
  PE.mono (pe_orT ha hb) fun σ H Q ⟨ρ, h⟩ => tM_imp (At.bind h) fun v H1 ⟨d, h1⟩ => by
    obtain ⟨c, h2, h3⟩ := At.tru (k := fun c M => if c then some (.ok d, M) else mb ρ M) hK h1 (List.mem_cons_self ..)
    refine ⟨c, h2, ?_⟩
    cases c with
    | true => exact iteT (h3.fin (List.mem_cons_self ..))
    | false => exact iteF (at_someE h3)
theorem d_not {a : Expr} {ma : ME} {pos : Pos} (ha : PE X a (tM g E ma)) (hK : X.K = g.K := by rfl) : PE X (.UnaryOp .Not a pos) (tM g E (eUn notD ma)) :=
  PE.mono (pe_notT ha) fun σ H Q ⟨ρ, h⟩ => tM_imp (At.bind h) fun v H1 ⟨d, h1⟩ => by
    obtain ⟨c, h2, h3⟩ := At.tru (k := fun c M => some (.ok (D.p (.bl (!c))), M)) hK h1 (List.mem_cons_self ..)
    refine ⟨c, h2, ?_⟩
    obtain ⟨w, e1, ok, sl, hΓ, r, M', hk, hp⟩ := h3
    have e3 := Option.some.inj hk
    have e4 : Res.ok (D.p (.bl (!c))) = r := congrArg Prod.fst e3
    have e5 : w.M = M' := congrArg Prod.snd e3
    subst e4 e5 e1
    exact hp w rfl (Le.refl w) ok _ rfl
def eChain (f f' : O2) (a b c : ME) : ME := fun ρ M => bindR (a ρ M) fun x M => bindR (b ρ M) fun y M => bindR (f x y M) fun z M => match z with
  | .p (.bl true) => bindR (c ρ M) fun u M => f' y u M
  | .p (.bl false) => some (.ok (.p (.bl false)), M)
  | _ => none
theorem d_chain {a b c : Expr} {op op' : CmpOp} {f f' : O2} {ma mb mc : ME} {pos : Pos} (ho : OpR X (compareOp op) (rD2 g E f)) (ho' : OpR X (compareOp op') (rD2 g E f')) (ha : PE X a (tM g E ma)) (hb : PE X b (tM g E mb)) (hc : PE X c (tM g E mc))
    (hm : lastMarks [op, op'] [b, c] = false := by with_unfolding_all rfl) : PE X (.Compare a [op, op'] [b, c] pos) (tM g E (eChain f f' ma mb mc)) :=
  PE.mono (pe_chain ho ho' ha hb hc hm) fun σ H Q ⟨ρ, h⟩ => tM_imp (At.bind h) fun x H1 ⟨d, h1⟩ => tM_imp (At.bind h1) fun y H2 ⟨e, h2⟩ => by
    obtain ⟨w, d1, d2, z1, z2, z3, z4, r, M', z5, z6⟩ := At.op2 (v := x) (u := y) h2 (by simp) (by simp)
    refine ⟨w, d1, d2, z1, z2, z3, z4, r, M', z5, ?_⟩
    cases r with
    | exc c fs => exact z6
    | ok a =>
      intro w' hw l k v hv
      obtain ⟨c, h3⟩ := z6 w' hw l k v hv
      cases c with
      | own n => exact (At.none h3).elim
      | p q =>
        cases q with
        | bl t =>
          obtain ⟨w2, _, _, hb⟩ := h3.den (List.mem_cons_self ..)
          refine ⟨t, hb, ?_⟩
          cases t with
          | true =>
            refine iteT (tM_imp (At.bind h3) fun u H4 ⟨e4, h4⟩ => ?_)
            have h5 : At g E σ ρ ((e4, u) :: (D.p (.bl true), v) :: (e, y) :: (d, x) :: []) H4 (fun M => bindR (f' e e4 M) fun a M => some (.ok a, M)) (RV g Q) := h4.eq fun M => by rw [bindR_pure]
            obtain ⟨w, e1, ok, sl, hΓ, r, M', hk, hp⟩ := h4
            exact ⟨w, e, e4, e1, ok, hΓ (e, y) (by simp), hΓ (e4, u) (by simp), r, M', hk, hp⟩
          | false =>
            refine iteF ?_
            have := h3.fin (List.mem_cons_self ..)
            rw [show v = V.bl false from hb] at this
            exact this
        | _ => exact (At.none h3).elim
theorem dt_chain {a b c : Expr} {op op' : CmpOp} {f f' : O2} {ma mb mc : ME} {pos : Pos} (ho : OpR X (compareOp op) (rD2 g E f)) (ho' : OpR X (compareOp op') (rD2 g E f')) (ha : PE X a (tM g E ma)) (hb : PE X b (tM g E mb)) (hc : PE X c (tM g E mc))
    (hm : lastMarks [op, op'] [b, c] = false := by with_unfolding_all rfl) : PT X (.Compare a [op, op'] [b, c] pos) (tMT g E fun ρ M => bindR (eChain f f' ma mb mc ρ M) bolD) :=
  PT.mono (pt_chain ho ho' ha hb hc hm) fun σ H Q ⟨ρ, h⟩ => by
    have key : ∀ Q' : VK, tM g E (eChain f f' ma mb mc) σ H Q' → tChain (rD2 g E f) (rD2 g E f') (tM g E ma) (tM g E mb) (tM g E mc) σ H Q' := fun Q' ⟨ρ, h⟩ => tM_imp (At.bind h) fun x H1 ⟨d, h1⟩ => tM_imp (At.bind h1) fun y H2 ⟨e, h2⟩ => by
      obtain ⟨w, d1, d2, z1, z2, z3, z4, r, M', z5, z6⟩ := At.op2 (v := x) (u := y) h2 (by simp) (by simp)
      refine ⟨w, d1, d2, z1, z2, z3, z4, r, M', z5, ?_⟩
      cases r with
      | exc c fs => exact z6
      | ok a =>
        intro w' hw l k v hv
        obtain ⟨c, h3⟩ := z6 w' hw l k v hv
        cases c with
        | own n => exact (At.none h3).elim
        | p q =>
          cases q with
          | bl t =>
            obtain ⟨w2, _, _, hb⟩ := h3.den (List.mem_cons_self ..)
            refine ⟨t, hb, ?_⟩
            cases t with
            | true =>
              refine iteT (tM_imp (At.bind h3) fun u H4 ⟨e4, h4⟩ => ?_)
              obtain ⟨w, e1, ok, sl, hΓ, r, M', hk, hp⟩ := h4
              exact ⟨w, e, e4, e1, ok, hΓ (e, y) (by simp), hΓ (e4, u) (by simp), r, M', hk, hp⟩
            | false =>
              refine iteF ?_
              have := h3.fin (List.mem_cons_self ..)
              rw [show v = V.bl false from hb] at this
              exact this
          | _ => exact (At.none h3).elim
    refine key _ (tM_imp (At.bind h) fun v H1 ⟨d, h1⟩ => ?_)
    have h4 : At g E σ ρ ((d, v) :: []) H1 (fun M => bindR (bolD d M) fun b M => some (.ok b, M)) (RB Q) := h1.eq fun M => by rw [bindR_pure]
    obtain ⟨b, e1, h5⟩ := At.bol h4 (List.mem_cons_self ..)
    exact ⟨b, e1, h5.finB⟩
/-! ### displays -/
def mkT (xs : List D) (M : Mem) : Out D := match allP xs with
  | some ps => if ps.length ≤ sizeLine then some (.ok (.p (.tup ps)), M) else none
  | none => none
def mkL (xs : List D) (M : Mem) : Out D := match allP xs with
  | some ps => if ps.length ≤ sizeLine then some (.ok (.p (.lst ps)), M) else none
  | none => none
def mkO (xs : List D) (M : Mem) : Out D := if xs.length ≤ sizeLine then some (.ok (.own M.length), M ++ [.lst xs]) else none
def eDisp (mk : On) (a : MA) : ME := fun ρ M => bindR (a ρ M) mk
theorem allP_len : ∀ {ds : List D} {ps : List P}, allP ds = some ps → ds.length = ps.length
  | [], ps, h => by simp [allP] at h; subst h; rfl
  | .own _ :: _, _, h => by simp [allP] at h
  | .p a :: r, ps, h => by
    unfold allP at h
    cases hr : allP r with
    | none => rw [hr] at h; cases h
    | some s =>
      rw [hr] at h
      have := Option.some.inj h
      subst this
      simp [allP_len hr]
theorem at_zip {α : Type} {ds : List D} {vs : List V} {k : Mem → Out α} {R : Wd → α → Prop} (hl : ds.length = vs.length) (h : At g E σ ρ (ds.zip vs ++ Γ) H k R) : ∃ w, w.H = H ∧ Ok g w ∧ DenDs g w ds vs ∧ ∃ r M', k w.M = some (r, M') ∧ Post g E w R r M' := by
  obtain ⟨w, e1, ok, sl, hΓ, r, M', hk, hp⟩ := h
  exact ⟨w, e1, ok, zipDen hl fun p hp => hΓ p (by simp [hp]), r, M', hk, hp⟩
theorem new_tup {w : Wd} {ps : List P} {xs : List V} {p : Addr} (ok : Ok g w) (hp : w.H p = Option.none) (h : DenL g w.F w.H ps xs) : Den g (w.lay p (.tup xs)).F (w.lay p (.tup xs)).H (.tup ps) (.ref p) := by
  unfold Den
  exact ⟨p, xs, rfl, .inl ⟨.inr rfl, .inl upd_same⟩, denL_mono ((lay_le ok hp).kp ok) _ _ h⟩
theorem new_lst {w : Wd} {ps : List P} {xs : List V} {p : Addr} (ok : Ok g w) (hp : w.H p = Option.none) (h : DenL g w.F w.H ps xs) : Den g (w.lay p (.lst xs)).F (w.lay p (.lst xs)).H (.lst ps) (.ref p) := by
  unfold Den
  exact ⟨p, xs, rfl, .inl ⟨.inr rfl, upd_same⟩, denL_mono ((lay_le ok hp).kp ok) _ _ h⟩
theorem Then.tup {w : Wd} {ps : List P} {xs : List V} {Q : VK} (t : Then g w (.tup ps) Q) (ok : Ok g w) (h : DenL g w.F w.H ps xs) : ∀ p, w.H p = Option.none → Q (.ref p) (upd w.H p (.tup xs)) := fun p hp =>
  t (w.lay p (.tup xs)) (.ref p) rfl (lay_le ok hp) (lay_ok ok hp) (new_tup ok hp h)
theorem Then.lst {w : Wd} {ps : List P} {xs : List V} {Q : VK} (t : Then g w (.lst ps) Q) (ok : Ok g w) (h : DenL g w.F w.H ps xs) : ∀ p, w.H p = Option.none → Q (.ref p) (upd w.H p (.lst xs)) := fun p hp =>
  t (w.lay p (.lst xs)) (.ref p) rfl (lay_le ok hp) (lay_ok ok hp) (new_lst ok hp h)
/-- a new list of one's own -/
theorem go_own {w : Wd} {ds : List D} {xs : List V} {Q : VK} (go : Go g E w (some (.ok (.own w.M.length), w.M ++ [.lst ds])) Q) (ok : Ok g w) (h : DenDs g w ds xs) : ∀ p, w.H p = Option.none → Q (.ref p) (upd w.H p (.lst xs)) := fun p hp => by
  obtain ⟨r, M', e, po⟩ := go
  have e1 := Option.some.inj e
  have e2 : Res.ok (D.own w.M.length) = r := congrArg Prod.fst e1
  have e3 : w.M ++ [MO.lst ds] = M' := congrArg Prod.snd e1
  subst e2 e3
  have le : Le w (w.put p (.lst xs) (.lst ds)) := put_le ok hp
  refine po (w.put p (.lst xs) (.lst ds)) rfl le (put_ok ok hp ⟨rfl, xs, upd_same, le.denDs ok h⟩) (.ref p) ⟨p, p, rfl, ?_⟩
  show (w.io ++ [(p, p)])[w.M.length]? = some (p, p)
  rw [← ok.len]
  simp
theorem d_tup {es : List Expr} {a : MA} {x1} {pos : Pos} (h : PA X es (tMA g E a)) : PE X (.Tuple es x1 pos) (tM g E (eDisp mkT a)) := PE.mono (pe_tup h) fun σ H Q ⟨ρ, h⟩ => tMA_imp (At.bindA h) fun vs H1 ⟨ds, hl, h1⟩ => by
  obtain ⟨w, e1, ok, hd, r, M', hk, hp⟩ := at_zip hl h1
  subst e1
  unfold mkT at hk
  split at hk
  · rename_i ps hps
    split at hk
    · rename_i hz
      refine ⟨by rw [← hl, allP_len hps]; exact hz, ?_⟩
      exact Then.tup (then_of ⟨r, M', hk, hp⟩) ok (denL_of hps hd)
    · cases hk
  · cases hk
theorem d_lst {es : List Expr} {a : MA} {pos : Pos} (h : PA X es (tMA g E a)) : PE X (.List es pos) (tM g E (eDisp mkL a)) := PE.mono (pe_lst h) fun σ H Q ⟨ρ, h⟩ => tMA_imp (At.bindA h) fun vs H1 ⟨ds, hl, h1⟩ => by
  obtain ⟨w, e1, ok, hd, r, M', hk, hp⟩ := at_zip hl h1
  subst e1
  unfold mkL at hk
  split at hk
  · rename_i ps hps
    split at hk
    · rename_i hz
      refine ⟨by rw [← hl, allP_len hps]; exact hz, ?_⟩
      exact Then.lst (then_of ⟨r, M', hk, hp⟩) ok (denL_of hps hd)
    · cases hk
  · cases hk
theorem d_lstO {es : List Expr} {a : MA} {pos : Pos} (h : PA X es (tMA g E a)) : PE X (.List es pos) (tM g E (eDisp mkO a)) := PE.mono (pe_lst h) fun σ H Q ⟨ρ, h⟩ => tMA_imp (At.bindA h) fun vs H1 ⟨ds, hl, h1⟩ => by
  obtain ⟨w, e1, ok, hd, r, M', hk, hp⟩ := at_zip hl h1
  subst e1
  unfold mkO at hk
  split at hk
  · rename_i hz
    refine ⟨by rw [← hl]; exact hz, ?_⟩
    exact go_own ⟨r, M', hk, hp⟩ ok hd
  · cases hk
end
end DL

set_option maxHeartbeats 4000000
namespace DL
open PySem PySem.Spec PyProof.Rows L2
section
variable {X : Cx} {g : G} {E : XK} {σ : L2.St} {ρ : Rho} {Γ : List (D × V)} {H : Hp}

/-! ### statements -/
inductive Fl where
  | nx (ρ : Rho) | ret (d : D) | brk (ρ : Rho) | ct (ρ : Rho)
abbrev MS := Rho → Mem → Out Fl
abbrev MT := Rho → Mem → Out Bool
def RS (g : G) (Dn : Ends) : Wd → Fl → Prop := fun w fl => match fl with
  | .nx ρ' => ∀ σ', Slots g w ρ' σ' → Dn.nx σ' w.H
  | .ret d => ∀ v, DenD g w d v → Dn.rt v w.H
  | .brk ρ' => ∀ σ', Slots g w ρ' σ' → Dn.bk σ' w.H
  | .ct ρ' => ∀ σ', Slots g w ρ' σ' → Dn.ct σ' w.H
def tS (g : G) (E : XK) (m : MS) : TS := fun Dn σ H => ∃ ρ, At g E σ ρ [] H (m ρ) (RS g Dn)
def sSeq (a b : MS) : MS := fun ρ M => bindR (a ρ M) fun fl M => match fl with
  | .nx ρ' => b ρ' M
  | .ret d => some (.ok (.ret d), M)
  | .brk ρ' => some (.ok (.brk ρ'), M)
  | .ct ρ' => some (.ok (.ct ρ'), M)
def sNop : MS := fun ρ M => some (.ok (.nx ρ), M)
def sBreak : MS := fun ρ M => some (.ok (.brk ρ), M)
def sCont : MS := fun ρ M => some (.ok (.ct ρ), M)
def sRet (m : ME) : MS := fun ρ M => bindR (m ρ M) fun d M => some (.ok (.ret d), M)
def sRetN : MS := fun ρ M => some (.ok (.ret (.p .non)), M)
def sExpr (m : ME) : MS := fun ρ M => bindR (m ρ M) fun _ M => some (.ok (.nx ρ), M)
def sIf (t : MT) (a b : MS) : MS := fun ρ M => bindR (t ρ M) fun c M => if c then a ρ M else b ρ M
def sNever : MS := fun _ _ => none
theorem At.okE {α : Type} {a : α} {R : Wd → α → Prop} (h : At g E σ ρ Γ H (fun M => some (.ok a, M)) R) : ∃ w, w.H = H ∧ Ok g w ∧ Slots g w ρ σ ∧ (∀ p ∈ Γ, DenD g w p.1 p.2) ∧ R w a := by
  obtain ⟨w, e1, ok, sl, hΓ, r, M', hk, hp⟩ := h
  have e3 := Option.some.inj hk
  have e4 : Res.ok a = r := congrArg Prod.fst e3
  have e5 : w.M = M' := congrArg Prod.snd e3
  subst e4 e5
  exact ⟨w, e1, ok, sl, hΓ, hp w rfl (Le.refl w) ok⟩
theorem tS_at {m : MS} {Dn : Ends} (h : At g E σ ρ Γ H (m ρ) (RS g Dn)) : tS g E m Dn σ H := by
  obtain ⟨w, e1, ok, sl, hΓ, r, M', hk, hp⟩ := h
  exact ⟨ρ, w, e1, ok, sl, by simp, r, M', hk, hp⟩
/-- a part of a block: what follows it -/
theorem tS_then {m : MS} {Dn : Ends} {w : Wd} {k : Fl → Mem → Out Fl} {Dm : Ends} {r : Res Fl} {M' : Mem} (ok : Ok g w) (sl : Slots g w ρ σ) (hk : bindR (m ρ w.M) k = some (r, M')) (hp : Post g E w (RS g Dn) r M')
    (hf : ∀ fl w1 M1, Le w w1 → Ok g w1 → w1.M = M1 → k fl M1 = some (r, M') → Post g E w1 (RS g Dn) r M' → RS g Dm w1 fl) : tS g E m Dm σ w.H := by
  rcases out_split hk with ⟨a, M1, e1, e2⟩ | ⟨c, fs, e1, e2⟩
  · exact ⟨ρ, w, rfl, ok, sl, by simp, _, _, e1, fun w1 em l1 k1 => hf a w1 M1 l1 k1 em e2 (hp.mono l1)⟩
  · subst e2
    exact ⟨ρ, w, rfl, ok, sl, by simp, _, _, e1, hp⟩
theorem post_ok {α : Type} {w : Wd} {R : Wd → α → Prop} {a : α} {r : Res α} {M' : Mem} (ok : Ok g w) (h : (some (Res.ok a, w.M) : Out α) = some (r, M')) (hp : Post g E w R r M') : R w a := by
  have e3 := Option.some.inj h
  have e4 : Res.ok a = r := congrArg Prod.fst e3
  have e5 : w.M = M' := congrArg Prod.snd e3
  subst e4 e5
  exact hp w rfl (Le.refl w) ok
theorem ds_cons {st : Stmt} {rest : List Stmt} {a b : MS} (h1 : PS X st (tS g E a)) (h2 : PSs X rest (tS g E b)) : PSs X (st :: rest) (tS g E (sSeq a b)) :=
  PSs.mono (pss_cons h1 h2) fun Dn σ H ⟨ρ, w, e1, ok, sl, hΓ, r, M', hk, hp⟩ => by
    subst e1
    refine tS_then ok sl hk hp fun fl w1 M1 l1 k1 em e2 po => ?_
    subst em
    cases fl with
    | nx ρ' => exact fun σ' hs => ⟨ρ', w1, rfl, k1, hs, by simp, r, M', e2, po⟩
    | ret d => exact post_ok (R := RS g Dn) (a := Fl.ret d) k1 e2 po
    | brk ρ' => exact post_ok (R := RS g Dn) (a := Fl.brk ρ') k1 e2 po
    | ct ρ' => exact post_ok (R := RS g Dn) (a := Fl.ct ρ') k1 e2 po
theorem ds_one {st : Stmt} {a : MS} (h : PS X st (tS g E a)) : PSs X [st] (tS g E a) := pss_one h
theorem ds_nil : PSs X [] (tS g E sNop) := PSs.mono pss_nil fun Dn σ H ⟨ρ, h⟩ => by
  obtain ⟨w, e1, ok, sl, _, q⟩ := At.okE h
  subst e1
  exact q σ sl
theorem ds_pass {pos : Pos} : PS X (.Pass pos) (tS g E sNop) := PS.mono ps_pass fun Dn σ H ⟨ρ, h⟩ => by
  obtain ⟨w, e1, ok, sl, _, q⟩ := At.okE h
  subst e1
  exact q σ sl
theorem ds_break {pos : Pos} : PS X (.Break pos) (tS g E sBreak) := PS.mono ps_break fun Dn σ H ⟨ρ, h⟩ => by
  obtain ⟨w, e1, ok, sl, _, q⟩ := At.okE h
  subst e1
  exact q σ sl
theorem ds_cont {pos : Pos} : PS X (.Continue pos) (tS g E sCont) := PS.mono ps_continue fun Dn σ H ⟨ρ, h⟩ => by
  obtain ⟨w, e1, ok, sl, _, q⟩ := At.okE h
  subst e1
  exact q σ sl
theorem ds_never {st : Stmt} : PS X st (tS g E sNever) := PS.mono (t := tNever) ps_never fun Dn σ H ⟨ρ, h⟩ => by
  obtain ⟨w, e1, ok, sl, hΓ, r, M', hk, hp⟩ := h
  cases hk
theorem ds_ret {e : Expr} {m : ME} {pos : Pos} (h : PE X e (tM g E m)) : PS X (.Return (some e) pos) (tS g E (sRet m)) := PS.mono (ps_ret h) fun Dn σ H ⟨ρ, h⟩ => tM_imp (At.bind h) fun v H1 ⟨d, h1⟩ => by
  obtain ⟨w, e1, ok, sl, hΓ, q⟩ := At.okE h1
  subst e1
  exact q v (hΓ (d, v) (by simp))
theorem ds_retN {pos : Pos} : PS X (.Return none pos) (tS g E sRetN) := PS.mono ps_retN fun Dn σ H ⟨ρ, h⟩ => by
  obtain ⟨w, e1, ok, sl, _, q⟩ := At.okE h
  subst e1
  exact q _ rfl
theorem ds_expr {e : Expr} {m : ME} {pos : Pos} (h : PE X e (tM g E m)) (hs : swapsWith e none pos.line X.env = pure false := by rfl) : PS X (.Expr e pos) (tS g E (sExpr m)) := PS.mono (ps_expr h hs) fun Dn σ H ⟨ρ, h⟩ => tM_imp (At.bind h) fun v H1 ⟨d, h1⟩ => by
  obtain ⟨w, e1, ok, sl, hΓ, q⟩ := At.okE h1
  subst e1
  exact q σ sl
theorem ds_if {c : Expr} {a b : List Stmt} {t : MT} {ma mb : MS} {pos : Pos} (hc : PT X c (tMT g E t)) (ha : PSs X a (tS g E ma)) (hb : PSs X b (tS g E mb)) : PS X (.If c a b pos) (tS g E (sIf t ma mb)) :=
  PS.mono (ps_if hc ha hb) fun Dn σ H ⟨ρ, h⟩ => tMT_imp (At.bindT h) fun b H1 h1 => by
    cases b with
    | true => exact iteT (tS_at h1)
    | false => exact iteF (tS_at h1)

/-! ### targets: a name, some names -/
inductive Bd where
  | n (i : Nat) | t (is : List Nat)
def gsN : List Nat → TGs
  | [] => gNil
  | i :: is => gCons (gName i) (gsN is)
def gB (K : PySem.W.Frag) : Bd → TG
  | .n i => gName i
  | .t is => gTup K is.length (gsN is)
def putL : List Nat → List P → Rho → Rho
  | i :: is, p :: ps, ρ => putL is ps (ρ.set i (some (.p p)))
  | _, _, ρ => ρ
def bindB (b : Bd) (d : D) (ρ : Rho) : Option Rho := match b with
  | .n i => some (ρ.set i (some d))
  | .t is => match d with
    | .p (.tup ps) => if ps.length = is.length then some (putL is ps ρ) else none
    | _ => none
def Bd.ix : Bd → List Nat
  | .n i => [i]
  | .t is => is
theorem wipe_set {i : Nat} {x : Option V} : ∀ {vs : List Nat} {σ : L2.St}, i ∈ vs → wipe (σ.set i x) vs = wipe σ vs
  | [], σ, h => by simp at h
  | v :: vs, σ, h => by
    unfold wipe
    by_cases e : i ∈ vs
    · rw [wipe_set e]
    · have hv : i = v := by
        rcases List.mem_cons.mp h with h | h
        · exact h
        · exact absurd h e
      subst hv
      have key : ∀ (vs : List Nat) (σ : L2.St), i ∉ vs → (wipe (σ.set i x) vs) = (wipe σ vs).set i x := by
        intro vs
        induction vs with
        | nil => intro σ _; rfl
        | cons a r ih =>
          intro σ hn
          unfold wipe
          rw [ih σ (fun z => hn (by simp [z]))]
          exact List.set_comm _ _ (fun z => hn (by simp [z]))
      rw [key vs σ e, List.set_set]
theorem putL_run {w : Wd} : ∀ {is : List Nat} {ps : List P} {xs : List V} {ρ : Rho} {σ : L2.St}, ps.length = is.length → DenL g w.F w.H ps xs → Slots g w ρ σ →
    ∃ σ', (∀ Q : L2.St → Hp → Prop, Q σ' w.H → gsN is xs σ w.H Q) ∧ Slots g w (putL is ps ρ) σ' ∧ ∀ vs : List Nat, (∀ i ∈ is, i ∈ vs) → wipe σ' vs = wipe σ vs
  | [], [], xs, ρ, σ, _, h, sl => by
    unfold DenL at h
    subst h
    exact ⟨σ, fun Q q => ⟨rfl, q⟩, sl, fun _ _ => rfl⟩
  | [], _ :: _, _, _, _, e, _, _ => by simp at e
  | _ :: _, [], _, _, _, e, _, _ => by simp at e
  | i :: is, p :: ps, xs, ρ, σ, e, h, sl => by
    unfold DenL at h
    obtain ⟨x, r, rfl, h1, h2⟩ := h
    have sl1 : Slots g w (ρ.set i (some (.p p))) (σ.set i (some x)) := paired_set (R := SlotOk g w) (show SlotOk g w (some (.p p)) (some x) from h1) i sl
    obtain ⟨σ', a1, a2, a3⟩ := putL_run (is := is) (ps := ps) (xs := r) (by simpa using e) h2 sl1
    refine ⟨σ', fun Q q => ⟨x, r, rfl, a1 Q q⟩, a2, fun vs hv => ?_⟩
    rw [a3 vs (fun j hj => hv j (by simp [hj])), wipe_set (hv i (by simp))]
theorem bind_run {K : PySem.W.Frag} {w : Wd} {b : Bd} {d : D} {v : V} {ρ ρ' : Rho} (hK : K = g.K) (sl : Slots g w ρ σ) (hd : DenD g w d v) (hb : bindB b d ρ = some ρ') :
    ∃ σ', (∀ Q : L2.St → Hp → Prop, Q σ' w.H → gB K b v σ w.H Q) ∧ Slots g w ρ' σ' ∧ ∀ vs : List Nat, (∀ i ∈ b.ix, i ∈ vs) → wipe σ' vs = wipe σ vs := by
  cases b with
  | n i =>
    have e : ρ.set i (some d) = ρ' := Option.some.inj hb
    subst e
    exact ⟨σ.set i (some v), fun Q q => q, paired_set (R := SlotOk g w) (show SlotOk g w (some d) (some v) from hd) i sl, fun vs hv => wipe_set (hv i (by simp [Bd.ix]))⟩
  | t is =>
    unfold bindB at hb
    simp only at hb
    split at hb
    · rename_i ps
      split at hb
      · rename_i hl
        have e := Option.some.inj hb
        subst e
        have hd' : Den g w.F w.H (.tup ps) v := hd
        unfold Den at hd'
        obtain ⟨a, xs, rfl, r, q⟩ := hd'
        obtain ⟨σ', a1, a2, a3⟩ := putL_run hl q sl
        exact ⟨σ', fun Q z => ⟨a, xs, rfl, by rw [hK]; exact r.sq, by rw [← denL_len q, hl], a1 Q z⟩, a2, a3⟩
      · cases hb
    · cases hb
def sAsg (b : Bd) (m : ME) : MS := fun ρ M => bindR (m ρ M) fun d M => match bindB b d ρ with
  | some ρ' => some (.ok (.nx ρ'), M)
  | none => none
theorem asg_read {b : Bd} {m : ME} {Dn : Ends} (hK : X.K = g.K) (h : tS g E (sAsg b m) Dn σ H) : tAsg (tM g E m) (gB X.K b) Dn σ H := by
  obtain ⟨ρ, h⟩ := h
  refine tM_imp (At.bind h) fun v H1 ⟨d, h1⟩ => ?_
  obtain ⟨w, e1, ok, sl, hΓ, r, M', hk, hp⟩ := h1
  simp only at hk
  split at hk
  · rename_i ρ' hb
    subst e1
    obtain ⟨σ', a1, a2, a3⟩ := bind_run hK sl (hΓ (d, v) (by simp)) hb
    exact a1 _ (post_ok (a := Fl.nx ρ') ok hk hp σ' a2)
  · cases hk
theorem ds_set {st : Stmt} {i : Nat} {m : ME} (h : PS X st (tAsg (tM g E m) (gName i))) : PS X st (tS g E (sAsg (.n i) m)) := PS.mono h fun Dn σ H z => by
  obtain ⟨ρ, h⟩ := z
  refine tM_imp (At.bind h) fun v H1 ⟨d, h1⟩ => ?_
  obtain ⟨w, e1, ok, sl, hΓ, q⟩ := At.okE (a := Fl.nx (ρ.set i (some d))) h1
  subst e1
  exact q _ (paired_set (R := SlotOk g w) (show SlotOk g w (some d) (some v) from hΓ (d, v) (by simp)) i sl)
theorem ds_asg {tg e : Expr} {b : Bd} {m : ME} {pos : Pos} (he : PE X e (tM g E m)) (hg : PG X tg (gB X.K b)) (hK : X.K = g.K := by rfl) (hs : swapsWithSole [tg] e pos.line X.env = pure false := by rfl) (hw : swappedStores [tg] e X.env = pure none := by rfl)
    (h1 : (assignEach [tg] X.env).map (·.2) = [assign tg X.env] := by rfl) : PS X (.Assign [tg] e pos) (tS g E (sAsg b m)) := PS.mono (ps_asg he hg hs hw h1) fun Dn σ H z => asg_read hK z
theorem pg_n {i : Nat} {x : Str} {pos : Pos} (h : PG X (.Name x pos) (gName i)) : PG X (.Name x pos) (gB X.K (.n i)) := h
theorem pg_t {es : List Expr} {k : Nat} {is : List Nat} {pos : Pos} (hc : X.calm = true) (h : PGs X es (gsN is)) (hn : (assignEach es X.env).length = is.length := by rfl) (hst : (assignEach es X.env).findIdx? (·.1) = none := by rfl) : PG X (.Tuple es k pos) (gB X.K (.t is)) := pg_tup hc h hn hst
/-- a, b = e1, e2 -/
def sPar (i j : Nat) (a : MA) : MS := fun ρ M => bindR (a ρ M) fun ds M => match ds with
  | [x, y] => some (.ok (.nx ((ρ.set i (some x)).set j (some y))), M)
  | _ => none
theorem ds_par {st : Stmt} {i j : Nat} {a : MA} (h : PS X st (tPar i j (tMA g E a))) : PS X st (tS g E (sPar i j a)) := PS.mono h fun Dn σ H ⟨ρ, h⟩ => tMA_imp (At.bindA h) fun vs H1 ⟨ds, hl, h1⟩ => by
  obtain ⟨w, e1, ok, sl, hΓ, r, M', hk, hp⟩ := h1
  subst e1
  match ds, vs, hl with
  | [x, y], [v, u], _ =>
    refine ⟨v, u, rfl, ?_⟩
    have q := post_ok (a := Fl.nx ((ρ.set i (some x)).set j (some y))) ok hk hp
    exact q _ (paired_set (R := SlotOk g w) (show SlotOk g w (some y) (some u) from hΓ (y, u) (by simp)) j (paired_set (R := SlotOk g w) (show SlotOk g w (some x) (some v) from hΓ (x, v) (by simp)) i sl))
  | [], _, _ => cases hk
  | [_], _, _ => cases hk
  | _ :: _ :: _ :: _, _, _ => cases hk

/-! ### while -/
def sWhile (fuel : Nat) (t : MT) (b : MS) : MS := match fuel with
  | 0 => fun _ _ => none
  | n + 1 => fun ρ M => bindR (t ρ M) fun c M => if c then bindR (b ρ M) fun fl M => match fl with
      | .nx ρ' => sWhile n t b ρ' M
      | .ct ρ' => sWhile n t b ρ' M
      | .brk ρ' => some (.ok (.nx ρ'), M)
      | .ret d => some (.ok (.ret d), M)
    else some (.ok (.nx ρ), M)
theorem ds_while {st : Stmt} {t : MT} {b : MS} (fuel : Nat) (h : PS X st (tWhile (tMT g E t) (tS g E b))) : PS X st (tS g E (sWhile fuel t b)) := PS.mono h fun Dn σ H z => by
  refine ⟨fun n σ H => tS g E (sWhile n t b) Dn σ H, ⟨fuel, z⟩, fun n σ H z => ?_⟩
  obtain ⟨ρ, h⟩ := z
  cases n with
  | zero =>
    obtain ⟨w, e1, ok, sl, hΓ, r, M', hk, hp⟩ := h
    cases hk
  | succ n =>
    refine tMT_imp (At.bindT h) fun c H1 h1 => ?_
    cases c with
    | false =>
      obtain ⟨w, e1, ok, sl, hΓ, q⟩ := At.okE (a := Fl.nx ρ) h1
      subst e1
      exact iteF (q σ sl)
    | true =>
      refine iteT ⟨fun σ' H' => tS g E (sWhile n t b) Dn σ' H', fun σ' H' z => ⟨n, Nat.lt_succ_self n, z⟩, ?_⟩
      obtain ⟨w, e1, ok, sl, hΓ, r, M', hk, hp⟩ := h1
      subst e1
      refine tS_then (Dn := Dn) ok sl hk hp fun fl w1 M1 l1 k1 em e2 po => ?_
      subst em
      cases fl with
      | nx ρ' => exact fun σ' hs => ⟨ρ', w1, rfl, k1, hs, by simp, r, M', e2, po⟩
      | ct ρ' => exact fun σ' hs => ⟨ρ', w1, rfl, k1, hs, by simp, r, M', e2, po⟩
      | brk ρ' => exact post_ok (R := RS g Dn) (a := Fl.nx ρ') k1 e2 po
      | ret d => exact post_ok (R := RS g Dn) (a := Fl.ret d) k1 e2 po

/-! ### what is walked -/
/-- what is frozen, and the numbers, stand -/
structure Le0 (w w' : Wd) : Prop where
  fm : ∀ a, w.F a → w'.F a
  keep : ∀ a o, w.F a → w.H a = some o → w'.H a = some o
  pre : ∃ more, w'.io = w.io ++ more
theorem Le.l0 {w w' : Wd} (l : Le w w') (k : Ok g w) : Le0 w w' := ⟨l.fm, fun a o f h => l.keep a o h fun q => k.disj a q f, let ⟨m, e, _⟩ := l.pre; ⟨m, e⟩⟩
theorem Le0.trans {u v w : Wd} (a : Le0 u v) (b : Le0 v w) : Le0 u w := ⟨fun x h => b.fm x (a.fm x h), fun x o f h => b.keep x o (a.fm x f) (a.keep x o f h), by
  obtain ⟨m1, e1⟩ := a.pre
  obtain ⟨m2, e2⟩ := b.pre
  exact ⟨m1 ++ m2, by rw [e2, e1, List.append_assoc]⟩⟩
theorem Le0.kp {w w' : Wd} (l : Le0 w w') : Kp w.F w'.F w.H w'.H := .same fun a f => ⟨l.fm a f, fun o e => l.keep a o f e⟩
theorem Le0.denD {w w' : Wd} (l : Le0 w w') {d : D} {v : V} (h : DenD g w d v) : DenD g w' d v := by
  cases d with
  | p x => exact den_mono l.kp x v h
  | own n =>
    obtain ⟨a, dx, e, q⟩ := h
    obtain ⟨m, e1⟩ := l.pre
    exact ⟨a, dx, e, by rw [e1, List.getElem?_append_left (List.getElem?_eq_some_iff.mp q).1]; exact q⟩
theorem Le0.denDs {w w' : Wd} (l : Le0 w w') {ds : List D} {vs : List V} (h : DenDs g w ds vs) : DenDs g w' ds vs := Paired.mapP h fun _ _ q => l.denD q
/-- the iterator yields the data ds, one by one, as long as what stood stands -/
def ItD (g : G) (w : Wd) (J : It) (ds : List D) : Prop := ∀ w', Le0 w w' → Ok g w' → (∀ (i : Nat) d, ds[i]? = some d → J.go i w'.H ∧ ∀ x H', J.yld i w'.H x H' → ∃ w2, w2.H = H' ∧ w2.M = w'.M ∧ Le w' w2 ∧ Ok g w2 ∧ DenD g w2 d x) ∧ J.stop ds.length w'.H
def RI (g : G) (R : It → Hp → Prop) : Wd → List D → Prop := fun w ds => ∀ J, ItD g w J ds → R J w.H
def iM (g : G) (E : XK) (m : MA) : TI := fun σ H R => ∃ ρ, At g E σ ρ [] H (m ρ) (RI g R)
theorem PI.mono {tg e : Expr} {t t' : TI} (h : PI X tg e t) (q : ∀ σ H R, t' σ H R → t σ H R) : PI X tg e t' := ⟨fun pins s σ H R I z => h.run pins s σ H R I (q σ H R z)⟩
def forGo (b : Bd) (body : MS) : List D → MS
  | [] => fun ρ M => some (.ok (.nx ρ), M)
  | d :: ds => fun ρ M => match bindB b d ρ with
    | none => none
    | some ρ1 => bindR (body ρ1 M) fun fl M => match fl with
      | .nx ρ' => forGo b body ds ρ' M
      | .ct ρ' => forGo b body ds ρ' M
      | .brk ρ' => some (.ok (.nx ρ'), M)
      | .ret d => some (.ok (.ret d), M)
def sFor (it : MA) (b : Bd) (body : MS) : MS := fun ρ M => bindR (it ρ M) fun ds M => forGo b body ds ρ M
theorem iM_bind {m : MA} {k : List D → Mem → Out Fl} {Dn : Ends} {w : Wd} {r : Res Fl} {M' : Mem} (ok : Ok g w) (sl : Slots g w ρ σ) (hk : bindR (m ρ w.M) k = some (r, M')) (hp : Post g E w (RS g Dn) r M') {R : It → Hp → Prop}
    (hf : ∀ ds w1, Le w w1 → Ok g w1 → k ds w1.M = some (r, M') → Post g E w1 (RS g Dn) r M' → ∀ J, ItD g w1 J ds → R J w1.H) : iM g E m σ w.H R := by
  rcases out_split hk with ⟨a, M1, e1, e2⟩ | ⟨c, fs, e1, e2⟩
  · refine ⟨ρ, w, rfl, ok, sl, by simp, _, _, e1, fun w1 em l1 k1 J hJ => ?_⟩
    subst em
    exact hf a w1 l1 k1 e2 (hp.mono l1) J hJ
  · subst e2
    exact ⟨ρ, w, rfl, ok, sl, by simp, _, _, e1, hp⟩
theorem ds_for {st : Stmt} {it : MA} {b : Bd} {body : MS} (h : PS X st (tFor (iM g E it) (gB X.K b) (tS g E body))) (hK : X.K = g.K := by rfl) : PS X st (tS g E (sFor it b body)) := PS.mono h fun Dn σ H z => by
  obtain ⟨ρ, w, e1, ok, sl, hΓ, r, M', hk, hp⟩ := z
  subst e1
  refine iM_bind (Dn := Dn) ok sl hk hp fun ds w1 l1 k1 e2 po J hJ => ?_
  refine ⟨fun i m σ H => i + m = ds.length ∧ ∃ ρ w2, w2.H = H ∧ Le w1 w2 ∧ Ok g w2 ∧ Slots g w2 ρ σ ∧ ∃ r M', forGo b body (ds.drop i) ρ w2.M = some (r, M') ∧ Post g E w2 (RS g Dn) r M', ⟨ds.length, by omega, ρ, w1, rfl, Le.refl w1, k1, l1.slots ok sl, r, M', e2, po⟩, ?_⟩
  rintro i m σ H ⟨hi, ρ, w2, rfl, l2, k2, sl2, r, M', e3, po2⟩
  obtain ⟨j1, j2⟩ := hJ w2 (l2.l0 k1) k2
  by_cases hl : i < ds.length
  · right
    have hd : ds.drop i = ds[i] :: ds.drop (i + 1) := List.drop_eq_getElem_cons hl
    obtain ⟨j3, j4⟩ := j1 i ds[i] (List.getElem?_eq_getElem hl)
    refine ⟨j3, fun σ' H' => ∃ ρ w3, w3.H = H' ∧ Le w1 w3 ∧ Ok g w3 ∧ Slots g w3 ρ σ' ∧ ∃ r M', forGo b body (ds.drop (i + 1)) ρ w3.M = some (r, M') ∧ Post g E w3 (RS g Dn) r M', fun σ' H' ⟨ρ, w3, a1, a2, a3, a4, a5⟩ => ⟨m - 1, by omega, by omega, ρ, w3, a1, a2, a3, a4, a5⟩, fun x H' hy => ?_⟩
    obtain ⟨w3, rfl, em, l3, k3, hx⟩ := j4 x H' hy
    rw [hd] at e3
    unfold forGo at e3
    split at e3
    · cases e3
    · rename_i ρ1 hb
      obtain ⟨σ', a1, a2, a3⟩ := bind_run hK (l3.slots k2 sl2) hx hb
      refine a1 _ ?_
      rw [← em] at e3
      refine tS_then (Dn := Dn) k3 a2 e3 (po2.mono l3) fun fl w4 M4 l4 k4 em4 e5 po5 => ?_
      subst em4
      cases fl with
      | nx ρ' => exact fun σ' hs => ⟨ρ', w4, rfl, (l2.trans l3).trans l4, k4, hs, r, M', e5, po5⟩
      | ct ρ' => exact fun σ' hs => ⟨ρ', w4, rfl, (l2.trans l3).trans l4, k4, hs, r, M', e5, po5⟩
      | brk ρ' => exact post_ok (R := RS g Dn) (a := Fl.nx ρ') k4 e5 po5
      | ret d => exact post_ok (R := RS g Dn) (a := Fl.ret d) k4 e5 po5
  · left
    have he : i = ds.length := by omega
    subst he
    refine ⟨j2, ?_⟩
    rw [List.drop_length] at e3
    exact post_ok (R := RS g Dn) (a := Fl.nx ρ) k2 e3 po2 σ sl2
end
end DL

set_option maxHeartbeats 4000000
namespace DL
open PySem PySem.Spec PyProof.Rows L2
section
variable {X : Cx} {g : G} {E : XK} {σ : L2.St} {ρ : Rho} {Γ : List (D × V)} {H : Hp}

/-! ### comprehensions -/
def noX {α : Type} (o : Out α) : Out α := match o with
  | some (.ok a, M) => some (.ok a, M)
  | _ => none
@[simp] theorem noX_ok {α : Type} (a : α) (M : Mem) : noX (some (.ok a, M)) = some (.ok a, M) := rfl
@[simp] theorem noX_none {α : Type} : noX (none : Out α) = none := rfl
theorem noX_split {α β : Type} {o : Out α} {k : α → Mem → Out β} {r : Res β} {M' : Mem} (h : bindR (noX o) k = some (r, M')) : ∃ a M1, o = some (.ok a, M1) ∧ k a M1 = some (r, M') := by
  cases o with
  | none => cases h
  | some x =>
    obtain ⟨r1, M1⟩ := x
    cases r1 with
    | ok a => exact ⟨a, M1, rfl, h⟩
    | exc c fs => cases h
theorem blkE {m : ME} {w : Wd} {d : D} {M1 : Mem} (ok : Ok g w) (sl : Slots g w ρ σ) (h : m ρ w.M = some (.ok d, M1)) {Q : VK} (q : ∀ w1 v, w1.M = M1 → Le w w1 → Ok g w1 → DenD g w1 d v → Q v w1.H) : tM g E0 m σ w.H Q :=
  ⟨ρ, w, rfl, ok, sl, by simp, _, _, h, fun w1 em l k v hv => q w1 v em l k hv⟩
theorem blkT {m : MT} {w : Wd} {b : Bool} {M1 : Mem} (ok : Ok g w) (sl : Slots g w ρ σ) (h : m ρ w.M = some (.ok b, M1)) {Q : Bool → Hp → Prop} (q : ∀ w1, w1.M = M1 → Le w w1 → Ok g w1 → Q b w1.H) : tMT g E0 m σ w.H Q :=
  ⟨ρ, w, rfl, ok, sl, by simp, _, _, h, fun w1 em l k => q w1 em l k⟩
theorem blkI {m : MA} {w : Wd} {ds : List D} {M1 : Mem} (ok : Ok g w) (sl : Slots g w ρ σ) (h : m ρ w.M = some (.ok ds, M1)) {R : It → Hp → Prop} (q : ∀ w1, w1.M = M1 → Le w w1 → Ok g w1 → ∀ J, ItD g w1 J ds → R J w1.H) : iM g E0 m σ w.H R :=
  ⟨ρ, w, rfl, ok, sl, by simp, _, _, h, fun w1 em l k J hJ => q w1 em l k J hJ⟩
def wipeR (ρ : Rho) : List Nat → Rho
  | [] => ρ
  | v :: vs => (wipeR ρ vs).set v none
theorem wipe_slots {w : Wd} (sl : Slots g w ρ σ) : ∀ vs : List Nat, Slots g w (wipeR ρ vs) (wipe σ vs)
  | [] => sl
  | v :: vs => by
    unfold wipeR wipe
    exact paired_set (R := SlotOk g w) (show SlotOk g w none none from trivial) v (wipe_slots sl vs)
theorem wipe_none {vs : List Nat} : ∀ {i : Nat}, i ∈ vs → ∀ {x : Option V}, (wipe σ vs)[i]? = some x → x = none := by
  induction vs with
  | nil => intro i h; simp at h
  | cons v r ih =>
    intro i h x e
    unfold wipe at e
    by_cases hv : i = v
    · subst hv
      rw [List.getElem?_set] at e
      simp at e
      exact e.2.symm
    · rw [List.getElem?_set_ne (Ne.symm hv)] at e
      rcases List.mem_cons.mp h with h | h
      · exact absurd h hv
      · exact ih h e
theorem wipe_get_out {vs : List Nat} : ∀ {i : Nat}, i ∉ vs → (wipe σ vs)[i]? = σ[i]? := by
  induction vs with
  | nil => intro i _; rfl
  | cons v r ih =>
    intro i h
    unfold wipe
    rw [List.getElem?_set_ne (fun e => h (by simp [e]))]
    exact ih (fun z => h (by simp [z]))
theorem wipe_wipe (vs : List Nat) : wipe (wipe σ vs) vs = wipe σ vs := by
  apply List.ext_getElem?
  intro i
  by_cases hi : i ∈ vs
  · cases e1 : (wipe (wipe σ vs) vs)[i]? with
    | none =>
      have l1 : (wipe (wipe σ vs) vs).length ≤ i := List.getElem?_eq_none_iff.mp e1
      rw [wipe_length] at l1
      rw [List.getElem?_eq_none_iff.mpr l1]
    | some x =>
      have := wipe_none hi e1
      subst this
      cases e2 : (wipe σ vs)[i]? with
      | none =>
        have l1 : (wipe σ vs).length ≤ i := List.getElem?_eq_none_iff.mp e2
        have l2 := (List.getElem?_eq_some_iff.mp e1).1
        rw [wipe_length] at l2
        omega
      | some y =>
        have := wipe_none hi e2
        subst this
        rfl
  · rw [wipe_get_out hi]
theorem paired_append {α β : Type} {R : α → β → Prop} : ∀ {xs : List α} {ys : List β} {xs' : List α} {ys' : List β}, Paired R xs ys → Paired R xs' ys' → Paired R (xs ++ xs') (ys ++ ys')
  | _, _, _, _, .nil, s => s
  | _, _, _, _, .cons r t, s => .cons r (paired_append t s)
/-- the list in the making at D, foreign to all -/
structure Acc (g : G) (b : Wd) (L : Addr) (w : Wd) (ys : List D) : Prop where
  ok : Ok g w
  le : Le b w
  nf : ¬ w.F L
  no : ¬ w.owns L
  at_ : ∃ vs, w.H L = some (.lst vs) ∧ DenDs g w ys vs
theorem Acc.go {b w w' : Wd} {L : Addr} {ys : List D} (a : Acc g b L w ys) (l : Le w w') (k : Ok g w') : Acc g b L w' ys where
  ok := k
  le := a.le.trans l
  nf := fun f => by
    obtain ⟨vs, e, _⟩ := a.at_
    rcases l.fnew L f with z | z
    · exact a.nf z
    · rw [e] at z; cases z
  no := fun f => by
    obtain ⟨vs, e, _⟩ := a.at_
    rcases l.owns f with z | z
    · exact a.no z
    · rw [e] at z; cases z
  at_ := by
    obtain ⟨vs, e, q⟩ := a.at_
    exact ⟨vs, l.keep L _ e a.no, l.denDs a.ok q⟩
/-- a foreign thing changes -/
theorem for_ok {w : Wd} {L : Addr} {o : HO} (k : Ok g w) (nf : ¬ w.F L) (no : ¬ w.owns L) : Ok g { w with H := upd w.H L o } where
  len := k.len
  nd := k.nd
  fdom := fun a f => by
    show upd w.H L o a ≠ none
    rw [upd_ne (fun e : a = L => nf (by rw [← e]; exact f))]
    exact k.fdom a f
  disj := k.disj
  own := fun i p m h1 h2 => by
    have n1 : p.1 ≠ L := fun e => no ⟨p, List.mem_of_getElem? h1, .inl e.symm⟩
    have n2 : p.2 ≠ L := fun e => no ⟨p, List.mem_of_getElem? h1, .inr e.symm⟩
    have q := k.own i p m h1 h2
    have kp : Kp w.F w.F w.H (upd w.H L o) := .same fun a f => ⟨f, fun u e => by rw [upd_ne (fun e : a = L => nf (by rw [← e]; exact f))]; exact e⟩
    have dd : ∀ d v, DenD g w d v → DenD g { w with H := upd w.H L o } d v := fun d v h => by
      cases d with
      | p x => exact den_mono kp x v h
      | own n => exact h
    have dds : ∀ ds vs, DenDs g w ds vs → DenDs g { w with H := upd w.H L o } ds vs := fun ds vs h => Paired.mapP h dd
    have e1 : upd w.H L o p.1 = w.H p.1 := upd_ne n1
    have e2 : upd w.H L o p.2 = w.H p.2 := upd_ne n2
    cases m with
    | lst ds =>
      obtain ⟨e, xs, a1, a2⟩ := q
      exact ⟨e, xs, e1.trans a1, dds _ _ a2⟩
    | tup ds =>
      obtain ⟨e, xs, a1, a2⟩ := q
      exact ⟨e, xs, e1.trans a1, dds _ _ a2⟩
    | dic ks vs =>
      obtain ⟨e, xs, a1, a0, a2⟩ := q
      exact ⟨e, xs, e1.trans a1, a0, dds _ _ a2⟩
    | ins c fs =>
      obtain ⟨xs, a1, a2, a3, a4⟩ := q
      refine ⟨xs, ?_, a2, by show upd w.H L o p.2 ≠ none; rw [e2]; exact a3, fun j d e => ?_⟩
      · rcases a1 with a1 | a1
        · exact .inl ⟨e1.trans a1.1, a1.2⟩
        · exact .inr ⟨e1.trans a1.1, e2.trans a1.2⟩
      · obtain ⟨x, b1, b2⟩ := a4 j d e
        exact ⟨x, b1, dd _ _ b2⟩
    | scr ds =>
      obtain ⟨e, xs, a1, a2⟩ := q
      refine ⟨e, xs, ?_, dds _ _ a2⟩
      rcases a1 with a1 | ⟨o, a1⟩
      · exact .inl (e1.trans a1)
      · exact .inr ⟨o, e1.trans a1⟩
    | dead => exact ⟨by show upd w.H L o p.1 ≠ none; rw [e1]; exact q.1, by show upd w.H L o p.2 ≠ none; rw [e2]; exact q.2⟩
theorem for_l0 {w : Wd} {L : Addr} {o : HO} (nf : ¬ w.F L) : Le0 w { w with H := upd w.H L o } := ⟨fun _ h => h, fun a u f e => by show upd w.H L o a = some u; rw [upd_ne (fun z : a = L => nf (by rw [← z]; exact f))]; exact e, [], by simp⟩
theorem for_le {b w : Wd} {L : Addr} {o : HO} (l : Le b w) (hb : b.H L = none) : Le b { w with H := upd w.H L o } where
  fm := l.fm
  keep := fun a u e n => by
    show upd w.H L o a = some u
    rw [upd_ne (ne_of_none e hb)]
    exact l.keep a u e n
  fnew := l.fnew
  alive := fun a h => by
    show upd w.H L o a ≠ none
    by_cases e : a = L
    · rw [e, upd_same]; simp
    · rw [upd_ne e]; exact l.alive a h
  pre := l.pre
theorem Acc.push {b w : Wd} {L : Addr} {ys : List D} {y : D} {v : V} {vs : List V} (a : Acc g b L w ys) (hb : b.H L = none) (hv : w.H L = some (.lst vs)) (hy : DenD g w y v) (hys : DenDs g w ys vs) : Acc g b L { w with H := upd w.H L (.lst (vs ++ [v])) } (ys ++ [y]) where
  ok := for_ok a.ok a.nf a.no
  le := for_le a.le hb
  nf := a.nf
  no := a.no
  at_ := ⟨vs ++ [v], upd_same, by
    have l := for_l0 (w := w) (o := .lst (vs ++ [v])) a.nf
    exact paired_append (l.denDs hys) (.cons (l.denD hy) .nil)⟩
theorem Acc.new {b : Wd} {L : Addr} (k : Ok g b) (hb : b.H L = none) : Acc g b L { b with H := upd b.H L (.lst []) } [] where
  ok := for_ok k (fun f => k.fdom L f hb) (fun f => k.ownH f hb)
  le := for_le (Le.refl b) hb
  nf := fun f => k.fdom L f hb
  no := fun f => k.ownH f hb
  at_ := ⟨[], upd_same, .nil⟩
/-- the list is made: it is frozen -/
theorem Acc.froze {b w : Wd} {L : Addr} {ys : List D} {ps : List P} {Q : VK} (a : Acc g b L w ys) (hb : b.H L = none) (hp : allP ys = some ps) (t : Then g { b with M := w.M } (.lst ps) Q) (hm : ∀ w', Le b w' → Le { b with M := w.M } w') : Q (.ref L) w.H := by
  obtain ⟨vs, e, q⟩ := a.at_
  have kp : Kp w.F (fun x => w.F x ∨ x = L) w.H w.H := .same fun a f => ⟨.inl f, fun o h => h⟩
  have l2 : Le b ⟨fun x => w.F x ∨ x = L, w.io, w.M, w.H⟩ := ⟨fun x f => .inl (a.le.fm x f), a.le.keep, fun x f => by
    rcases f with f | rfl
    · exact a.le.fnew x f
    · exact .inr hb, a.le.alive, a.le.pre⟩
  have l3 : Le0 w ⟨fun x => w.F x ∨ x = L, w.io, w.M, w.H⟩ := ⟨fun x f => .inl f, fun _ _ _ h => h, [], by simp⟩
  refine t ⟨fun x => w.F x ∨ x = L, w.io, w.M, w.H⟩ (.ref L) rfl (hm _ l2) ⟨a.ok.len, a.ok.nd, fun x f => ?_, fun x h f => ?_, fun i p m h1 h2 => ?_⟩ ?_
  · rcases f with f | rfl
    · exact a.ok.fdom x f
    · show w.H x ≠ none
      rw [e]; simp
  · rcases f with f | rfl
    · exact a.ok.disj x h f
    · exact a.no h
  · have q := a.ok.own i p m h1 h2
    cases m with
    | lst ds =>
      obtain ⟨e, xs, a1, a2⟩ := q
      exact ⟨e, xs, a1, l3.denDs a2⟩
    | tup ds =>
      obtain ⟨e, xs, a1, a2⟩ := q
      exact ⟨e, xs, a1, l3.denDs a2⟩
    | dic ks vs =>
      obtain ⟨e, xs, a1, a0, a2⟩ := q
      exact ⟨e, xs, a1, a0, l3.denDs a2⟩
    | ins c fs =>
      obtain ⟨xs, a1, a2, a3, a4⟩ := q
      refine ⟨xs, a1, a2, a3, fun j d e => ?_⟩
      obtain ⟨x, b1, b2⟩ := a4 j d e
      exact ⟨x, b1, l3.denD b2⟩
    | scr ds =>
      obtain ⟨e, xs, a1, a2⟩ := q
      exact ⟨e, xs, a1, l3.denDs a2⟩
    | dead => exact q
  · unfold Den
    exact ⟨L, vs, rfl, .inl ⟨.inr rfl, e⟩, denL_mono kp _ _ (denL_of hp q)⟩
/-- .. or it is one's own -/
theorem Acc.owned {b w : Wd} {L : Addr} {ys : List D} (a : Acc g b L w ys) (hb : b.H L = none) : ∃ w', w'.H = w.H ∧ w'.M = w.M ++ [.lst ys] ∧ Le b w' ∧ Ok g w' ∧ DenD g w' (.own w.M.length) (.ref L) := by
  obtain ⟨vs, e, q⟩ := a.at_
  have l3 : Le0 w ⟨w.F, w.io ++ [(L, L)], w.M ++ [.lst ys], w.H⟩ := ⟨fun x f => f, fun _ _ _ h => h, _, rfl⟩
  have cs : ∀ (i : Nat) q, (w.io ++ [(L, L)])[i]? = some q → w.io[i]? = some q ∨ (i = w.io.length ∧ q = (L, L)) := fun i q h2 => by
    by_cases hl : i < w.io.length
    · left
      rw [List.getElem?_append_left hl] at h2
      exact h2
    · rw [List.getElem?_append_right (by omega)] at h2
      have hz := (List.getElem?_eq_some_iff.mp h2).1
      simp at hz
      have e : i = w.io.length := by omega
      subst e
      right
      simp at h2
      exact ⟨rfl, h2.symm⟩
  have hq : ∀ (i : Nat) q, w.io[i]? = some q → q.1 ≠ L ∧ q.2 ≠ L := fun i q h => ⟨fun z => a.no ⟨q, List.mem_of_getElem? h, .inl z.symm⟩, fun z => a.no ⟨q, List.mem_of_getElem? h, .inr z.symm⟩⟩
  refine ⟨⟨w.F, w.io ++ [(L, L)], w.M ++ [.lst ys], w.H⟩, rfl, rfl, ⟨a.le.fm, a.le.keep, a.le.fnew, a.le.alive, ?_⟩, ⟨by simp [a.ok.len], fun i j q r hi hj hne => ?_, a.ok.fdom, fun x h f => ?_, fun i p m h1 h2 => ?_⟩, L, L, rfl, ?_⟩
  · obtain ⟨more, e1, e2⟩ := a.le.pre
    refine ⟨more ++ [(L, L)], by rw [e1, List.append_assoc], fun p hp => ?_⟩
    rcases List.mem_append.mp hp with hp | hp
    · exact e2 p hp
    · simp at hp
      subst hp
      exact ⟨hb, hb⟩
  · rcases cs i q hi with h1 | ⟨e1, rfl⟩ <;> rcases cs j r hj with h2 | ⟨e2, rfl⟩
    · exact a.ok.nd i j q r h1 h2 hne
    · have z := hq i q h1
      exact ⟨z.1, z.1, z.2, z.2⟩
    · have z := hq j r h2
      exact ⟨Ne.symm z.1, Ne.symm z.2, Ne.symm z.1, Ne.symm z.2⟩
    · omega
  · obtain ⟨p, hp, hx⟩ := h
    rcases List.mem_append.mp hp with hp | hp
    · exact a.ok.disj x ⟨p, hp, hx⟩ f
    · simp at hp
      subst hp
      simp at hx
      subst hx
      exact a.nf f
  · rcases cs i p h1 with h1' | ⟨e1, rfl⟩
    · have hl : i < w.M.length := by rw [← a.ok.len]; exact (List.getElem?_eq_some_iff.mp h1').1
      have h2' : (w.M ++ [MO.lst ys])[i]? = some m := h2
      rw [List.getElem?_append_left hl] at h2'
      have q := a.ok.own i p m h1' h2'
      cases m with
      | lst ds =>
        obtain ⟨e, xs, a1, a2⟩ := q
        exact ⟨e, xs, a1, l3.denDs a2⟩
      | tup ds =>
        obtain ⟨e, xs, a1, a2⟩ := q
        exact ⟨e, xs, a1, l3.denDs a2⟩
      | dic ks vs =>
        obtain ⟨e, xs, a1, a0, a2⟩ := q
        exact ⟨e, xs, a1, a0, l3.denDs a2⟩
      | ins c fs =>
        obtain ⟨xs, a1, a2, a3, a4⟩ := q
        refine ⟨xs, a1, a2, a3, fun j d e => ?_⟩
        obtain ⟨x, b1, b2⟩ := a4 j d e
        exact ⟨x, b1, l3.denD b2⟩
      | scr ds =>
        obtain ⟨e, xs, a1, a2⟩ := q
        exact ⟨e, xs, a1, l3.denDs a2⟩
      | dead => exact q
    · have h2' : (w.M ++ [MO.lst ys])[i]? = some m := h2
      rw [e1, a.ok.len] at h2'
      simp at h2'
      subst h2'
      exact ⟨rfl, vs, e, l3.denDs q⟩
  · show (w.io ++ [(L, L)])[w.M.length]? = some (L, L)
    rw [← a.ok.len]
    simp
def lcGo (b : Bd) (t : MT) (e : ME) (ρ : Rho) : List D → Mem → Out (List D)
  | [], M => some (.ok [], M)
  | d :: ds, M => match bindB b d ρ with
    | none => none
    | some ρ1 => bindR (noX (t ρ1 M)) fun c M => if c then bindR (noX (e ρ1 M)) fun y M => bindR (lcGo b t e ρ ds M) fun ys M => some (.ok (y :: ys), M) else lcGo b t e ρ ds M
theorem lcGo_ok {b : Bd} {t : MT} {e : ME} {ρ : Rho} : ∀ {ds : List D} {M : Mem} {r : Res (List D)} {M' : Mem}, lcGo b t e ρ ds M = some (r, M') → ∃ ys, r = .ok ys
  | [], M, r, M', h => by
    have := congrArg Prod.fst (Option.some.inj h)
    exact ⟨[], this.symm⟩
  | d :: ds, M, r, M', h => by
    unfold lcGo at h
    split at h
    · cases h
    · obtain ⟨c, M1, _, h2⟩ := noX_split h
      cases c with
      | false => exact lcGo_ok h2
      | true =>
        obtain ⟨y, M2, _, h3⟩ := noX_split h2
        rcases out_split h3 with ⟨ys, M3, e1, e2⟩ | ⟨c, fs, e1, e2⟩
        · exact ⟨_, (congrArg Prod.fst (Option.some.inj e2)).symm⟩
        · obtain ⟨zs, hz⟩ := lcGo_ok e1
          cases hz
/-- one walk of a comprehension, the new list at L: the turns -/
theorem lc_turns {K : PySem.W.Frag} {b : Bd} {t : MT} {e : ME} {vs : List Nat} {J : It} {ds : List D} {w0 w1 : Wd} {L : Addr} {n : Nat} {Nx : Hp → Prop} (hK : K = g.K) (hbx : ∀ i ∈ b.ix, i ∈ vs) (hb : w0.H L = none) (hJ : ItD g w1 J ds) (slw : ∀ w2, Le0 w1 w2 → Slots g w2 (wipeR ρ vs) (wipe σ vs))
    (hn : n ≤ sizeLine) {ys0 : List D} {ZS : List D} {MZ : Mem} (hlen : ys0.length + ZS.length ≤ n)
    (hgo : lcGo b t e (wipeR ρ vs) ds w1.M = some (.ok ZS, MZ)) (a1 : Acc g w0 L w1 ys0)
    (fin : ∀ w2, w2.M = MZ → Le0 w1 w2 → Acc g w0 L w2 (ys0 ++ ZS) → J.stop ds.length w2.H → Nx w2.H) :
    ∃ W : Nat → Nat → Hp → Prop, (∃ m, W 0 m w1.H) ∧ ∀ i m H, W i m H →
      (J.stop i H ∧ Nx H) ∨ (J.go i H ∧ ∃ Nn : Hp → Prop, (∀ H', Nn H' → ∃ m', m' < m ∧ W (i + 1) m' H') ∧ ∀ x H', J.yld i H x H' → gB K b x (wipe σ vs) H' fun σ2 H2 => wipe σ2 vs = wipe σ vs ∧ tMT g E0 t σ2 H2 fun c H3 =>
        if c = true then tM g E0 e σ2 H3 fun y H4 => ∃ acc, H4 L = some (.lst acc) ∧ acc.length < sizeLine ∧ Nn (upd H4 L (.lst (acc ++ [y]))) else Nn H3) := by
  have stepW : ∀ (i : Nat) (w2 : Wd), Le0 w1 w2 → Prop := fun _ _ _ => True
  refine ⟨fun i m H => i + m = ds.length ∧ ∃ w2 ys zs, w2.H = H ∧ Le0 w1 w2 ∧ Acc g w0 L w2 ys ∧ ys ++ zs = ys0 ++ ZS ∧ lcGo b t e (wipeR ρ vs) (ds.drop i) w2.M = some (.ok zs, MZ), ⟨ds.length, by omega, w1, ys0, ZS, rfl, ⟨fun _ f => f, fun _ _ _ h => h, [], by simp⟩, a1, rfl, hgo⟩, ?_⟩
  rintro i m H ⟨hi, w2, ys, zs, rfl, l2, a2, e2, g2⟩
  obtain ⟨j1, j2⟩ := hJ w2 l2 a2.ok
  by_cases hl : i < ds.length
  · right
    have hd : ds.drop i = ds[i] :: ds.drop (i + 1) := List.drop_eq_getElem_cons hl
    obtain ⟨j3, j4⟩ := j1 i ds[i] (List.getElem?_eq_getElem hl)
    refine ⟨j3, fun H' => ∃ w2 ys zs, w2.H = H' ∧ Le0 w1 w2 ∧ Acc g w0 L w2 ys ∧ ys ++ zs = ys0 ++ ZS ∧ lcGo b t e (wipeR ρ vs) (ds.drop (i + 1)) w2.M = some (.ok zs, MZ), fun H' q => ⟨m - 1, by omega, by omega, q⟩, fun x H' hy => ?_⟩
    obtain ⟨w3, rfl, em, l3, k3, hx⟩ := j4 x H' hy
    rw [hd] at g2
    unfold lcGo at g2
    split at g2
    · cases g2
    · rename_i ρ1 hb1
      obtain ⟨σ', b1, b2, b3⟩ := bind_run hK (slw w3 (l2.trans (l3.l0 a2.ok))) hx hb1
      refine b1 _ ⟨by rw [b3 vs hbx, wipe_wipe], ?_⟩
      rw [← em] at g2
      obtain ⟨c, M4, c1, c2⟩ := noX_split g2
      refine blkT k3 b2 c1 fun w4 em4 l4 k4 => ?_
      have a4 : Acc g w0 L w4 ys := (a2.go l3 k3).go l4 k4
      have l14 : Le0 w1 w4 := (l2.trans (l3.l0 a2.ok)).trans (l4.l0 k3)
      cases c with
      | false =>
        refine iteF ⟨w4, ys, zs, rfl, l14, a4, e2, ?_⟩
        rw [em4]
        exact c2
      | true =>
        refine iteT ?_
        obtain ⟨y, M5, d1, d2⟩ := noX_split c2
        rw [← em4] at d1
        refine blkE k4 (l4.slots k3 b2) d1 fun w5 v em5 l5 k5 hv => ?_
        have a5 : Acc g w0 L w5 ys := a4.go l5 k5
        obtain ⟨acc, f1, f2⟩ := a5.at_
        rcases out_split d2 with ⟨zs', M6, e3, e4⟩ | ⟨c, fs, e3, e4⟩
        · have e5 := Option.some.inj e4
          have e6 : y :: zs' = zs := by
            have := congrArg Prod.fst e5
            injection this
          have e7 : M6 = MZ := congrArg Prod.snd e5
          subst e6 e7
          refine ⟨acc, f1, ?_, _, ys ++ [y], zs', rfl, l14.trans ((l5.l0 k4).trans (for_l0 a5.nf)), a5.push hb f1 hv f2, by simp [e2], ?_⟩
          · have q1 := congrArg List.length e2
            have q2 := f2.length
            simp at q1
            omega
          · show lcGo b t e (wipeR ρ vs) (ds.drop (i + 1)) w5.M = _
            rw [em5]
            exact e3
        · obtain ⟨_, hz⟩ := lcGo_ok e3
          cases hz
  · left
    have he : i = ds.length := by omega
    subst he
    refine ⟨j2, ?_⟩
    rw [List.drop_length] at g2
    have e5 := Option.some.inj g2
    have e6 : [] = zs := by
      have := congrArg Prod.fst e5
      injection this
    have e7 : w2.M = MZ := congrArg Prod.snd e5
    subst e6
    refine fin w2 e7 l2 ?_ j2
    rw [← e2, List.append_nil]
    exact a2
end
end DL

set_option maxHeartbeats 4000000
namespace PySem
open PySem PySem.Spec PyProof.Rows
theorem meets_enum1 {v : Value} {o : Obj} {H : Heap → Prop} (B : Begins v o H) :
    Meets (Builtin.«enumerate.__new__» ⟨[.type "enumerate", v], []⟩) (fun _ R s => H s.heap ∧
      R (.ok (.ret (.ref (s.heap.push o).objs.size))) { s with heap := (s.heap.push o).push { cls := .type "enumerate", data := .fields #[.none, .bool false, .ref s.heap.objs.size, rawInt 0, .none, .none] } }) :=
  .of_wp fun prog w A R s h => by
    obtain ⟨hp, g, d, tk, os⟩ := s
    obtain ⟨hH, h⟩ := h
    have hsub := sub_enumerate
    have hit : ∀ {A : Around} {E : Value → Shared → Prop} {s : Shared} {Q : Value → Shared → Prop}, H s.heap → Q (.ref s.heap.objs.size) { s with heap := s.heap.push o } → wpAny (model prog w) A (pyIter v) Q E s := fun a b => B.iter _ _ _ _ _ _ a b
    wp_walk
    refine wpAny_stack_any fun st => wpAny_pure ?_
    split
    · rename_i c _ _ _ _ _
      cases (c == Value.type "enumerate")
      · wp_walk using hit hH
        exact ⟨_, rfl, h⟩
      · wp_walk using hit hH
        exact ⟨_, rfl, h⟩
    · wp_walk using hit hH
      exact ⟨_, rfl, h⟩
section
variable {prog : Program} {w : World} {A : Around} {E : Value → Shared → Prop} {s : Shared}
theorem enum_begins1 {v : Value} {o : Obj} {H : Heap → Prop} {Q : Value → Shared → Prop} (B : Begins v o H) (h1 : H s.heap)
    (h : ∀ h', IsEnum h' (s.heap.objs.size + 1) s.heap.objs.size 0 .none → h'.get? s.heap.objs.size = some o → h'.objs.size = s.heap.objs.size + 2 →
      (∀ b o, s.heap.get? b = some o → h'.get? b = some o) → Q (.ref (s.heap.objs.size + 1)) { s with heap := h' }) :
    wpAny (model prog w) A (call (.type "enumerate") [v]) Q E s := by
  refine callType_new F.called_enumerate (by decide) (F.typeCall_enumerate_1 _) (F.newCall_enumerate_1 _) (fun obj => F.args_object_init_2 obj _) F.entry_enumerate_new
    (meets_enum1 B) ⟨h1, ?_⟩
  have hz : (s.heap.push o).objs.size = s.heap.objs.size + 1 := Heap.size_push ..
  show _ ∧ _
  rw [hz]
  have he : IsEnum ((s.heap.push o).push { cls := .type "enumerate", data := .fields #[.none, .bool false, .ref s.heap.objs.size, rawInt 0, .none, .none] }) (s.heap.objs.size + 1) s.heap.objs.size 0 .none := by
    have := Heap.get?_push_size (s.heap.push o) (o := { cls := .type "enumerate", data := .fields #[.none, .bool false, .ref s.heap.objs.size, rawInt 0, .none, .none] }) rfl
    rw [hz] at this; exact this
  refine ⟨⟨_, he, rfl⟩, h _ he (Heap.get?_push_of_some _ (Heap.get?_push_size _ B.free)) (by rw [Heap.size_push, hz]) fun b o x => Heap.get?_push_of_some _ (Heap.get?_push_of_some _ x)⟩
end
end PySem

namespace DL
open PySem PySem.Spec PyProof.Rows L2
/-- the tuple at a, each item in a new pair -/
def IteT (K : PySem.W.Frag) (a : Addr) : It :=
  ⟨fun i H => ∃ (xs : List V) (x : V), SqT K H a xs ∧ xs[i]? = some x, fun i H v H' => ∃ T x, v = .ref T ∧ H T = none ∧ H' = upd H T (.tup [.int (i : Nat), x]) ∧ ∀ xs, SqT K H a xs → xs[i]? = some x, fun i H => ∃ xs : List V, SqT K H a xs ∧ xs.length = i⟩
theorem turn_enumT {P : Program} {w : World} {K : PySem.W.Frag} {elts : List Expr} {kk : Nat} {tpos : Pos} (a e it : Addr) :
    Turn P w K (.Tuple elts kk tpos) (IteT K a) [e, it] e (fun i h => (∃ old, IsEnum h e it ((i : Nat) : Int) old) ∧ h.IsTupleIter it a i ∧ e ≠ it) where
  mem := by simp
  obj := fun i h st b hb => by
    obtain ⟨⟨old, he⟩, ⟨o, ho, hc, hd⟩, _⟩ := st
    have e' : b = e ∨ b = it := by simpa using hb
    rcases e' with z | z
    · rw [z]; exact ⟨_, he, fun v q => nomatch q⟩
    · rw [z]; exact ⟨o, ho, fun v q => by rw [hd] at q; cases q⟩
  keep := fun i h h' st k => let ⟨⟨old, he⟩, hi, hne⟩ := st; ⟨⟨old, k e (by simp) _ he⟩, hi.at fun o q => k it (by simp) o q, hne⟩
  item := by
    intro X hP hw hK hc i pins s σ H E I hf st hg
    subst hP hw hK
    obtain ⟨⟨old, he⟩, hit, hne⟩ := st
    obtain ⟨xs, x, hq, hx⟩ := hg
    obtain ⟨its, rv, p, hz⟩ := I.tuple hq
    obtain ⟨u, hu, ru⟩ := rv.get hx
    have hel : e < s.heap.objs.size := Heap.lt_size he
    have hil : it < s.heap.objs.size := by obtain ⟨_, q, _⟩ := hit; exact Heap.lt_size q
    have nai : a ≠ it := fun z => by
      obtain ⟨o, h1, h2, _⟩ := p
      obtain ⟨o', h3, h4, _⟩ := hit
      rw [z, h3] at h1
      cases h1
      rw [h4] at h2
      exact absurd h2 (by decide)
    have nae : e ≠ a := fun z => by
      obtain ⟨o, h1, h2, _⟩ := p
      have he2 : s.heap.get? e = _ := he
      rw [z, h1] at he2
      have := Option.some.inj he2
      rw [this] at h2
      exact absurd (show Value.type "enumerate" = Value.type "tuple" from h2) (by decide)
    have D := Draws.tuple (prog := X.prog) (w := X.w) (A := X.A.in1) (show X.A.in1.handled = none from I.ok.hd hc) it a nai its.toArray
    have hlt : i < its.toArray.size := by
      have := (List.getElem?_eq_some_iff.mp hu).1
      simpa using this
    refine wpAny_pyNext_enum_itemC D he ⟨hit, p⟩ hlt hne (by simp [hne, nae]) fun x0 h' tk hP ho hst hT hsz hk => ?_
    obtain ⟨hit', _⟩ := hst
    have ex : x0 = u := by
      have hP' : its[i]? = some x0 := by simpa using hP
      rw [hu] at hP'
      exact (Option.some.inj hP').symm
    subst ex
    refine ⟨_, rfl, wpAny_letOwnedTupleGo_enum (s := { s with heap := h', toks := tk + 1 }) ho fun h'' he' sb => ?_⟩
    have hT2 : h''.get? s.heap.objs.size = some { cls := .type "tuple", data := .seq #[.int i tk, x0] } := (sb.2 _ (Nat.ne_of_gt hel)).trans hT
    have new : ObjOk X.prog X.w (upd H s.heap.objs.size (.tup [.int (i : Nat), x])) h'' s.heap.objs.size (.tup [.int (i : Nat), x]) :=
      ⟨by show 2 ≤ sizeLine; decide, [.int i tk, x0], .cons ⟨_, rfl⟩ (.cons ru .nil), ⟨_, hT2, rfl, _, rfl⟩⟩
    have I1 : Inv X pins σ (upd H s.heap.objs.size (.tup [.int (i : Nat), x])) { s with heap := h'', toks := tk + 1 } :=
      I.turnedNew (ch := [e, it]) (fun b ob hb q => (sb.2 b (fun z => hb (by simp [z]))).trans (hk b ob (fun z => hb (by simp [z])) (fun z => hb (by simp [z])) q)) hf (Nat.le_refl _) new
    refine ⟨.ref s.heap.objs.size, _, I1, rfl, ⟨_, x, rfl, I.hok.fresh (Nat.le_refl _), rfl, fun ys hy => by rw [I.tuple_inj hy hq]; exact hx⟩, ⟨⟨x0, ?_⟩, hit'.at fun o q => (sb.2 it (Ne.symm hne)).trans q, hne⟩, fun b hb => ?_⟩
    · have e1 : ((i + 1 : Nat) : Int) = (i : Int) + 1 := by omega
      rw [e1]; exact he'
    · have hb' : b < s.heap.objs.size := by
        have e' : b = e ∨ b = it := by simpa using hb
        rcases e' with z | z
        · rw [z]; exact hel
        · rw [z]; exact hil
      rw [upd_ne (Nat.ne_of_lt hb')]
      exact (hf b hb).1
  done := by
    intro X hP hw hK hc i pins s σ H E I hf st hg
    subst hP hw hK
    obtain ⟨⟨old, he⟩, hit, hne⟩ := st
    obtain ⟨xs, hq, hx⟩ := hg
    obtain ⟨its, rv, p, hz⟩ := I.tuple hq
    obtain ⟨f0, f1, f2, f3, f4, f5⟩ := hf it (by simp)
    have hl := rv.length
    have nai : a ≠ it := fun z => by
      obtain ⟨o, h1, h2, _⟩ := p
      obtain ⟨o', h3, h4, _⟩ := hit
      rw [z, h3] at h1
      cases h1
      rw [h4] at h2
      exact absurd h2 (by decide)
    have D := Draws.tuple (prog := X.prog) (w := X.w) (A := X.A.in1) (show X.A.in1.handled = none from I.ok.hd hc) it a nai its.toArray
    have ei : its.toArray.size = i := by
      rw [List.size_toArray, ← hl]; exact hx
    refine wpAny_pyNext_enum_endD D he ⟨by rw [ei]; exact hit, p⟩ fun h' eb => ⟨rfl, I.turned (t' := s.toks) (fun b o hb q => eb b o hb q) f0 f1 f3 f4 f5⟩
  self := fun A i s Q E st h => let ⟨⟨_, he⟩, _⟩ := st; wpAny_pyIter_enum he h
/-- enumerate(e), e a list or a tuple -/
def iEnumA (K : PySem.W.Frag) (ta : TA) : TI := fun σ H R => ta σ H fun vs H1 => ∃ a xs, vs = [.ref a] ∧ ((SqL K H1 a xs ∧ R (Ite K a) H1) ∨ (SqT K H1 a xs ∧ R (IteT K a) H1))
theorem pi_enumA {X : Cx} {e : Expr} {ta : TA} {p pos tpos : Pos} {elts : List Expr} {kk : Nat} (hg : Gl X "enumerate") (hm : X.mg "enumerate" = none) (ha : PA X [e] ta) (hs : starEach [e] X.env = [(false, eval e X.env)] := by rfl) :
    PI X (.Tuple elts kk tpos) (.Call (.Name "enumerate" p) [e] [] pos) (iEnumA X.K ta) := by
  refine ⟨fun pins s σ H R I h => ?_⟩
  refine Call_ (ld_blt I hg hm boot_enumerate (PyProof.Rows.callWith_type1 (thn (ha.run pos pins s σ H _ I h) fun us s1 ⟨vs, H1, I1, r1, q1⟩ => ?_) hs rfl))
  obtain ⟨a, xs, ex, q1⟩ := q1
  subst ex
  cases r1 with
  | cons r rr =>
    cases rr
    cases r
    have fpk : ∀ b ∈ [s1.heap.objs.size + 1, s1.heap.objs.size], FpOk X pins H1 b := fun b hb => by
      have e' : b = s1.heap.objs.size + 1 ∨ b = s1.heap.objs.size := by simpa using hb
      have hle : s1.heap.objs.size ≤ b := by
        rcases e' with z | z
        · rw [z]; exact Nat.le_add_right _ _
        · rw [z]; exact Nat.le_refl _
      exact I1.fpOk hle (I1.hok.fresh hle)
    rcases q1 with ⟨hq, q⟩ | ⟨hq, q⟩
    · obtain ⟨its, rv, p', hz⟩ := I1.list hq
      refine call_enumerate_list p'.isList fun h' he hit hsz hk => wpAny_pyIter_enum he ?_
      have I2 : Inv X pins σ H1 { s1 with heap := h' } := I1.kept (t' := s1.toks) hk
      exact ⟨s1.heap.objs.size + 1, [s1.heap.objs.size + 1, s1.heap.objs.size], _, _, H1, rfl, I2, turn_enum a (s1.heap.objs.size + 1) s1.heap.objs.size, ⟨⟨.none, he⟩, hit, Nat.succ_ne_self _⟩, fpk, q⟩
    · obtain ⟨its, rv, p', hz⟩ := I1.tuple hq
      refine enum_begins1 (begins_tuple a its.toArray) p' fun h' he hit hsz hk => wpAny_pyIter_enum he ?_
      have I2 : Inv X pins σ H1 { s1 with heap := h' } := I1.kept (t' := s1.toks) hk
      exact ⟨s1.heap.objs.size + 1, [s1.heap.objs.size + 1, s1.heap.objs.size], _, _, H1, rfl, I2, turn_enumT a (s1.heap.objs.size + 1) s1.heap.objs.size, ⟨⟨.none, he⟩, ⟨_, hit, rfl, rfl⟩, Nat.succ_ne_self _⟩, fpk, q⟩
end DL

set_option maxHeartbeats 4000000
namespace DL
open PySem PySem.Spec PyProof.Rows L2
section
variable {X : Cx} {g : G} {E : XK} {σ : L2.St} {ρ : Rho} {Γ : List (D × V)} {H : Hp}
theorem Le0.slots {w w' : Wd} (l : Le0 w w') {ρ : Rho} {σ : L2.St} (h : Slots g w ρ σ) : Slots g w' ρ σ := Paired.mapP h fun a b q => by
  cases a with
  | none => trivial
  | some d => cases b with
    | none => exact q
    | some v => exact l.denD q
theorem Le0.refl (w : Wd) : Le0 w w := ⟨fun _ h => h, fun _ _ _ h => h, [], by simp⟩
theorem Acc.frozen {b w : Wd} {L : Addr} {ys : List D} {ps : List P} (a : Acc g b L w ys) (hb : b.H L = none) (hp : allP ys = some ps) : ∃ w', w'.H = w.H ∧ w'.M = w.M ∧ Le b w' ∧ Ok g w' ∧ DenD g w' (.p (.lst ps)) (.ref L) := by
  obtain ⟨wr, h⟩ : ∃ wr : Wd, wr = { b with M := w.M } := ⟨_, rfl⟩
  have hm : ∀ w', Le b w' → Le { b with M := w.M } w' := fun w' l => ⟨l.fm, l.keep, l.fnew, l.alive, l.pre⟩
  have key := Acc.froze (Q := fun v H' => ∃ w', w'.H = H' ∧ w'.M = w.M ∧ Le b w' ∧ Ok g w' ∧ DenD g w' (.p (.lst ps)) v) a hb hp (fun w' v em l k hv => ⟨w', rfl, em, ⟨l.fm, l.keep, l.fnew, l.alive, l.pre⟩, k, hv⟩) hm
  exact key
/-- how a comprehension's list ends -/
structure MkOk (g : G) (mk : List D → Mem → Out D) : Prop where
  len : ∀ xs M r M', mk xs M = some (r, M') → xs.length ≤ sizeLine
  fin : ∀ (b w : Wd) (L : Addr) (ys : List D) r M', Acc g b L w ys → b.H L = none → mk ys w.M = some (r, M') → ∃ d w', r = .ok d ∧ w'.H = w.H ∧ w'.M = M' ∧ Le b w' ∧ Ok g w' ∧ DenD g w' d (.ref L)
theorem mkL_ok : MkOk g mkL where
  len := fun xs M r M' h => by
    unfold mkL at h
    split at h
    · rename_i ps hp
      split at h
      · rename_i hz
        rw [allP_len hp]; exact hz
      · cases h
    · cases h
  fin := fun b w L ys r M' a hb h => by
    unfold mkL at h
    split at h
    · rename_i ps hp
      split at h
      · rename_i hz
        have e := Option.some.inj h
        obtain ⟨w', h1, h2, h3, h4, h5⟩ := a.frozen hb hp
        exact ⟨_, w', (congrArg Prod.fst e).symm, h1, h2.trans (congrArg Prod.snd e), h3, h4, h5⟩
      · cases h
    · cases h
theorem mkO_ok : MkOk g mkO where
  len := fun xs M r M' h => by
    unfold mkO at h
    split at h
    · assumption
    · cases h
  fin := fun b w L ys r M' a hb h => by
    unfold mkO at h
    split at h
    · have e := Option.some.inj h
      obtain ⟨w', h1, h2, h3, h4, h5⟩ := a.owned hb
      exact ⟨_, w', (congrArg Prod.fst e).symm, h1, h2.trans (congrArg Prod.snd e), h3, h4, h5⟩
    · cases h
def eLc (mk : List D → Mem → Out D) (it : MA) (b : Bd) (t : MT) (e : ME) (vs : List Nat) : ME := fun ρ M => bindR (it ρ M) fun ds M => bindR (lcGo b t e (wipeR ρ vs) ds M) mk
def tYesM : MT := fun _ M => some (.ok true, M)
theorem dts_nil {X : Cx} : PTs X [] (tMT g E tYesM) := ⟨fun pins s σ H Q I z => pts_nil.run pins s σ H Q I (by
  obtain ⟨ρ, h⟩ := z
  exact h.finB)⟩
theorem dts_one {c : Expr} {t : MT} (h : PT X c (tMT g E t)) : PTs X [c] (tMT g E t) := pts_one h
theorem iM_bindV {α : Type} {m : MA} {k : List D → Mem → Out α} {Rr : Wd → α → Prop} {w : Wd} {r : Res α} {M' : Mem} (ok : Ok g w) (sl : Slots g w ρ σ) (hk : bindR (m ρ w.M) k = some (r, M')) (hp : Post g E w Rr r M') {R : It → Hp → Prop}
    (hf : ∀ ds w1, Le w w1 → Ok g w1 → k ds w1.M = some (r, M') → Post g E w1 Rr r M' → ∀ J, ItD g w1 J ds → R J w1.H) : iM g E m σ w.H R := by
  rcases out_split hk with ⟨a, M1, e1, e2⟩ | ⟨c, fs, e1, e2⟩
  · refine ⟨ρ, w, rfl, ok, sl, by simp, _, _, e1, fun w1 em l1 k1 J hJ => ?_⟩
    subst em
    exact hf a w1 l1 k1 e2 (hp.mono l1) J hJ
  · subst e2
    exact ⟨ρ, w, rfl, ok, sl, by simp, _, _, e1, hp⟩
theorem ItD.go0 {w w' : Wd} {J : It} {ds : List D} (h : ItD g w J ds) (l : Le0 w w') : ItD g w' J ds := fun w2 l2 k2 => h w2 (l.trans l2) k2
theorem lc_read {K : PySem.W.Frag} {mk : List D → Mem → Out D} (hmk : MkOk g mk) {it : MA} {b : Bd} {t : MT} {e : ME} {vs : List Nat} {Q : VK} (hK : K = g.K) (hbx : ∀ i ∈ b.ix, i ∈ vs) (h : tM g E (eLc mk it b t e vs) σ H Q) : tLc (iM g E it) (gB K b) (tMT g E0 t) (tM g E0 e) vs σ H Q := by
  obtain ⟨ρ, w, e1, ok, sl, hΓ, r, M', hk, hp⟩ := h
  subst e1
  refine iM_bindV ok sl hk hp fun ds w1 l1 k1 e2 po J hJ => ?_
  intro L hL
  rcases out_split e2 with ⟨ZS, MZ, e3, e4⟩ | ⟨c, fs, e3, e4⟩
  · have a1 := Acc.new (L := L) k1 hL
    have l01 : Le0 w1 { w1 with H := upd w1.H L (.lst []) } := for_l0 (fun f => k1.fdom L f hL)
    refine lc_turns (w0 := w1) (w1 := { w1 with H := upd w1.H L (.lst []) }) (n := sizeLine) (ys0 := []) (ρ := ρ) hK hbx hL (hJ.go0 l01) (fun w2 l2 => wipe_slots ((l01.trans l2).slots (l1.slots ok sl)) vs) (Nat.le_refl _) ?_ e3 a1 fun w2 em l2 a2 _ => ?_
    · have := hmk.len _ _ _ _ e4
      simpa using this
    · rw [List.nil_append] at a2
      rw [← em] at e4
      obtain ⟨d, w', e5, e6, e7, l3, k3, hd⟩ := hmk.fin w1 w2 L ZS r M' a2 hL e4
      subst e5
      rw [← e6]
      exact po w' e7 l3 k3 _ hd
  · obtain ⟨_, hz⟩ := lcGo_ok e3
    cases hz
theorem d_lc {mk : List D → Mem → Out D} (hmk : MkOk g mk) {elt tg iter : Expr} {ifs : List Expr} {scope : Scope} {own : List (Str × Nat)} {pos : Pos} {it : MA} {b : Bd} {t : MT} {e : ME} (hc : X.calm = true) (hN : X.N.Nodup) (hi : PI X tg iter (iM g E it)) (ok : BlkOk X.N X.env.scope scope own)
    (hg : ∀ (s : Shared) (H : Hp) (C : Addr) (cl : List (Str × Addr)) (fp : List Addr), PG (X.blk s H scope (compEnvC scope cl C X.env) fp) tg (gB X.K b)) (ht : ∀ (s : Shared) (H : Hp) (C : Addr) (cl : List (Str × Addr)) (fp : List Addr), PTs (X.blk s H scope (compEnvC scope cl C X.env) fp) ifs (tMT g E0 t))
    (he : ∀ (s : Shared) (H : Hp) (C : Addr) (cl : List (Str × Addr)) (fp : List Addr), PE (X.blk s H scope (compEnvC scope cl C X.env) fp) elt (tM g E0 e)) (hbx : ∀ i ∈ b.ix, i ∈ own.map (·.2)) (hK : X.K = g.K := by rfl) (hs : ∀ x, foldedSetIterable iter X.env x = pure x := by intro _; rfl) :
    PE X (.ListComp elt [⟨tg, iter, ifs, 0⟩] scope pos) (tM g E (eLc mk it b t e (own.map (·.2)))) :=
  PE.mono (pe_lc hc hN hi ok hg ht he hs) fun σ H Q h => lc_read hmk hK hbx h
theorem ds_lc {mk : List D → Mem → Out D} (hmk : MkOk g mk) {i : Nat} {y : Str} {py : Pos} {elt tg iter : Expr} {ifs : List Expr} {scope : Scope} {own : List (Str × Nat)} {pos spos : Pos} {it : MA} {b : Bd} {t : MT} {e : ME} (hc : X.calm = true) (hN : X.N.Nodup) (hy : X.N[i]? = some y) (hyl : X.env.scope.names.lookup y = some .local)
    (hsw : swapsWith (.ListComp elt [⟨tg, iter, ifs, 0⟩] scope pos) (some (.Name y py)) spos.line X.env = pure true) (hi : PI X tg iter (iM g E it)) (ok : BlkOk X.N X.env.scope scope own)
    (hg : ∀ (s : Shared) (H : Hp) (C : Addr) (cl : List (Str × Addr)) (fp : List Addr), PG (X.blk s H scope (compEnvC scope cl C X.env) fp) tg (gB X.K b)) (ht : ∀ (s : Shared) (H : Hp) (C : Addr) (cl : List (Str × Addr)) (fp : List Addr), PTs (X.blk s H scope (compEnvC scope cl C X.env) fp) ifs (tMT g E0 t))
    (he : ∀ (s : Shared) (H : Hp) (C : Addr) (cl : List (Str × Addr)) (fp : List Addr), PE (X.blk s H scope (compEnvC scope cl C X.env) fp) elt (tM g E0 e)) (hbx : ∀ i ∈ b.ix, i ∈ own.map (·.2)) (hK : X.K = g.K := by rfl) (hs : ∀ x, foldedSetIterable iter X.env x = pure x := by intro _; rfl) :
    PS X (.Assign [.Name y py] (.ListComp elt [⟨tg, iter, ifs, 0⟩] scope pos) spos) (tS g E (sAsg (.n i) (eLc mk it b t e (own.map (·.2))))) :=
  PS.mono (ps_setLc hc hN hy hyl hsw hi ok hg ht he hs) fun Dn σ H z => by
    obtain ⟨ρ, h⟩ := z
    have z2 : tM g E (eLc mk it b t e (own.map (·.2))) σ H (fun x H1 => gName i x σ H1 Dn.nx) := tM_imp (At.bind h) fun v H1 ⟨d, h1⟩ => by
      obtain ⟨w, e1, ok, sl, hΓ, q⟩ := At.okE (a := Fl.nx (ρ.set i (some d))) h1
      subst e1
      exact q _ (paired_set (R := SlotOk g w) (show SlotOk g w (some d) (some v) from hΓ (d, v) (by simp)) i sl)
    exact lc_read hmk hK hbx z2
/-! two fors -/
def lc2Go (b : Bd) (t : MT) (it1 : MA) (b1 : Bd) (t1 : MT) (e : ME) (vs1 : List Nat) (ρ : Rho) : List D → Mem → Out (List D)
  | [], M => some (.ok [], M)
  | d :: ds, M => match bindB b d ρ with
    | none => none
    | some ρ1 => bindR (noX (t ρ1 M)) fun c M => if c then bindR (noX (it1 ρ1 M)) fun ds1 M => bindR (lcGo b1 t1 e (wipeR ρ1 vs1) ds1 M) fun ys M => bindR (lc2Go b t it1 b1 t1 e vs1 ρ ds M) fun zs M => some (.ok (ys ++ zs), M) else lc2Go b t it1 b1 t1 e vs1 ρ ds M
theorem lc2Go_ok {b : Bd} {t : MT} {it1 : MA} {b1 : Bd} {t1 : MT} {e : ME} {vs1 : List Nat} {ρ : Rho} : ∀ {ds : List D} {M : Mem} {r : Res (List D)} {M' : Mem}, lc2Go b t it1 b1 t1 e vs1 ρ ds M = some (r, M') → ∃ ys, r = .ok ys
  | [], M, r, M', h => by
    have := congrArg Prod.fst (Option.some.inj h)
    exact ⟨[], this.symm⟩
  | d :: ds, M, r, M', h => by
    unfold lc2Go at h
    split at h
    · cases h
    · obtain ⟨c, M1, _, h2⟩ := noX_split h
      cases c with
      | false => exact lc2Go_ok h2
      | true =>
        obtain ⟨ds1, M2, _, h3⟩ := noX_split h2
        rcases out_split h3 with ⟨ys, M3, e1, e2⟩ | ⟨c, fs, e1, e2⟩
        · rcases out_split e2 with ⟨zs, M4, e3, e4⟩ | ⟨c, fs, e3, e4⟩
          · exact ⟨_, (congrArg Prod.fst (Option.some.inj e4)).symm⟩
          · obtain ⟨zs, hz⟩ := lc2Go_ok e3
            cases hz
        · obtain ⟨zs, hz⟩ := lcGo_ok e1
          cases hz
def eLc2 (mk : List D → Mem → Out D) (it : MA) (b : Bd) (t : MT) (it1 : MA) (b1 : Bd) (t1 : MT) (e : ME) (vs vs1 : List Nat) : ME := fun ρ M => bindR (it ρ M) fun ds M => bindR (lc2Go b t it1 b1 t1 e vs1 (wipeR ρ vs) ds M) mk
theorem lc2_read {K : PySem.W.Frag} {mk : List D → Mem → Out D} (hmk : MkOk g mk) {it it1 : MA} {b b1 : Bd} {t t1 : MT} {e : ME} {vs vs1 : List Nat} {Q : VK} (hK : K = g.K) (hbx : ∀ i ∈ b.ix, i ∈ vs) (hbx1 : ∀ i ∈ b1.ix, i ∈ vs1) (h : tM g E (eLc2 mk it b t it1 b1 t1 e vs vs1) σ H Q) :
    tLc2 (iM g E it) (gB K b) (tMT g E0 t) (iM g E0 it1) (gB K b1) (tMT g E0 t1) (tM g E0 e) vs vs1 σ H Q := by
  obtain ⟨ρ, w, e1, ok, sl, hΓ, r, M', hk, hp⟩ := h
  subst e1
  refine iM_bindV ok sl hk hp fun ds w1 l1 k1 e2 po J hJ => ?_
  intro L hL
  rcases out_split e2 with ⟨ZS, MZ, e3, e4⟩ | ⟨c, fs, e3, e4⟩
  · have a1 := Acc.new (L := L) k1 hL
    have l01 : Le0 w1 { w1 with H := upd w1.H L (.lst []) } := for_l0 (fun f => k1.fdom L f hL)
    have hlen := hmk.len _ _ _ _ e4
    refine ⟨fun i m H => i + m = ds.length ∧ ∃ w2 ys zs, w2.H = H ∧ Le0 w1 w2 ∧ Acc g w1 L w2 ys ∧ ys ++ zs = ZS ∧ lc2Go b t it1 b1 t1 e vs1 (wipeR ρ vs) (ds.drop i) w2.M = some (.ok zs, MZ), ⟨ds.length, by omega, _, [], ZS, rfl, l01, a1, rfl, e3⟩, ?_⟩
    rintro i m H ⟨hi, w2, ys, zs, rfl, l2, a2, e5, g2⟩
    obtain ⟨j1, j2⟩ := hJ w2 l2 a2.ok
    by_cases hl : i < ds.length
    · right
      have hd : ds.drop i = ds[i] :: ds.drop (i + 1) := List.drop_eq_getElem_cons hl
      obtain ⟨j3, j4⟩ := j1 i ds[i] (List.getElem?_eq_getElem hl)
      refine ⟨j3, fun H' => ∃ w2 ys zs, w2.H = H' ∧ Le0 w1 w2 ∧ Acc g w1 L w2 ys ∧ ys ++ zs = ZS ∧ lc2Go b t it1 b1 t1 e vs1 (wipeR ρ vs) (ds.drop (i + 1)) w2.M = some (.ok zs, MZ), fun H' q => ⟨m - 1, by omega, by omega, q⟩, fun x H' hy => ?_⟩
      obtain ⟨w3, rfl, em, l3, k3, hx⟩ := j4 x H' hy
      rw [hd] at g2
      unfold lc2Go at g2
      split at g2
      · cases g2
      · rename_i ρ1 hb1
        obtain ⟨σ', b2, b3, b4⟩ := bind_run hK (wipe_slots ((l2.trans (l3.l0 a2.ok)).slots (l1.slots ok sl)) vs) hx hb1
        refine b2 _ ⟨by rw [b4 vs hbx, wipe_wipe], ?_⟩
        rw [← em] at g2
        obtain ⟨c, M4, c1, c2⟩ := noX_split g2
        refine blkT k3 b3 c1 fun w4 em4 l4 k4 => ?_
        have a4 : Acc g w1 L w4 ys := (a2.go l3 k3).go l4 k4
        have l14 : Le0 w1 w4 := (l2.trans (l3.l0 a2.ok)).trans (l4.l0 k3)
        cases c with
        | false =>
          refine iteF ⟨w4, ys, zs, rfl, l14, a4, e5, ?_⟩
          rw [em4]
          exact c2
        | true =>
          refine iteT ?_
          obtain ⟨ds1, M5, d1, d2⟩ := noX_split c2
          rw [← em4] at d1
          refine blkI k4 (l4.slots k3 b3) d1 fun w5 em5 l5 k5 J1 hJ1 => ?_
          have a5 : Acc g w1 L w5 ys := a4.go l5 k5
          rcases out_split d2 with ⟨ys', M6, f1, f2⟩ | ⟨c, fs, f1, f2⟩
          · rcases out_split f2 with ⟨zs', M7, f3, f4⟩ | ⟨c, fs, f3, f4⟩
            · have e8 := Option.some.inj f4
              have e6 : ys' ++ zs' = zs := by
                have := congrArg Prod.fst e8
                injection this
              have e7 : M7 = MZ := congrArg Prod.snd e8
              subst e6 e7
              have sl5 : Slots g w5 ρ1 σ' := l5.slots k4 (l4.slots k3 b3)
              refine lc_turns (w0 := w1) (w1 := w5) (n := sizeLine) (ys0 := ys) (ρ := ρ1) (σ := σ') hK hbx1 hL hJ1 (fun w6 l6 => wipe_slots (l6.slots sl5) vs1) (Nat.le_refl _) ?_ (by rw [em5]; exact f1) a5 fun w6 em6 l6 a6 _ => ?_
              · have := congrArg List.length e5
                simp at this
                omega
              · exact ⟨w6, ys ++ ys', zs', rfl, (l14.trans (l5.l0 k4)).trans l6, a6, by rw [← e5, List.append_assoc], by rw [em6]; exact f3⟩
            · obtain ⟨_, hz⟩ := lc2Go_ok f3
              cases hz
          · obtain ⟨_, hz⟩ := lcGo_ok f1
            cases hz
    · left
      have he : i = ds.length := by omega
      subst he
      refine ⟨j2, ?_⟩
      rw [List.drop_length] at g2
      have e9 := Option.some.inj g2
      have e6 : [] = zs := by
        have := congrArg Prod.fst e9
        injection this
      have e7 : w2.M = MZ := congrArg Prod.snd e9
      subst e6
      rw [List.append_nil] at e5
      subst e5
      rw [← e7] at e4
      obtain ⟨d, w', e5, e6, e7, l3, k3, hd⟩ := hmk.fin w1 w2 L ys r M' a2 hL e4
      subst e5
      rw [← e6]
      exact po w' e7 l3 k3 _ hd
  · obtain ⟨_, hz⟩ := lc2Go_ok e3
    cases hz
/-! ### what a loop walks -/
def aSeq (m : ME) : MA := fun ρ M => bindR (m ρ M) fun d M => match d with
  | .p (.lst xs) => some (.ok (xs.map .p), M)
  | .p (.tup xs) => some (.ok (xs.map .p), M)
  | _ => none
theorem pi_seq {tg l : Expr} {tl : TE} (hl : PE X l tl) : PI X tg l (fun σ H R => tl σ H fun x H1 => ∃ a xs, x = .ref a ∧ ((SqL X.K H1 a xs ∧ R (Itl X.K a) H1) ∨ (SqT X.K H1 a xs ∧ R (Itt X.K a) H1))) := by
  refine ⟨fun pins s σ H R I h => ?_⟩
  refine thn (hl.run pins s σ H _ I h) fun v s1 ⟨x, H1, I1, r1, q1⟩ => ?_
  obtain ⟨a, xs, e, q1⟩ := q1
  subst e
  cases r1
  have fpk : ∀ b ∈ [s1.heap.objs.size], FpOk X pins H1 b := fun b hb => by
    have e : b = s1.heap.objs.size := by simpa using hb
    subst e
    exact I1.fpOk (Nat.le_refl _) (I1.hok.fresh (Nat.le_refl _))
  rcases q1 with ⟨hq, q⟩ | ⟨hq, q⟩
  · obtain ⟨its, rv, p, hz⟩ := I1.list hq
    refine wpAny_pyIter_list p.isList ?_
    exact ⟨s1.heap.objs.size, [s1.heap.objs.size], _, _, H1, rfl, I1.kept (t' := s1.toks) fun b o e => Heap.get?_push_of_some _ e, turn_list a _, ⟨_, Heap.get?_push_size _ rfl, rfl, rfl⟩, fpk, q⟩
  · obtain ⟨its, rv, p, hz⟩ := I1.tuple hq
    refine wpAny_pyIter_tuple (show s1.heap.IsTuple a its.toArray from p) ?_
    exact ⟨s1.heap.objs.size, [s1.heap.objs.size], _, _, H1, rfl, I1.kept (t' := s1.toks) fun b o e => Heap.get?_push_of_some _ e, turn_tuple a _, ⟨_, Heap.get?_push_size _ rfl, rfl, rfl⟩, fpk, q⟩
theorem denL_get {F : Addr → Prop} {H : Hp} : ∀ {ps : List P} {xs : List V} {i : Nat} {p : P}, DenL g F H ps xs → ps[i]? = some p → ∃ x, xs[i]? = some x ∧ Den g F H p x
  | [], _, _, _, _, e => by simp at e
  | q :: ps, xs, 0, p, h, e => by
    unfold DenL at h
    obtain ⟨x, r, rfl, h1, _⟩ := h
    simp at e
    subst e
    exact ⟨x, rfl, h1⟩
  | q :: ps, xs, i + 1, p, h, e => by
    unfold DenL at h
    obtain ⟨x, r, rfl, _, h2⟩ := h
    obtain ⟨y, e1, e2⟩ := denL_get (i := i) h2 (by simpa using e)
    exact ⟨y, by simpa using e1, e2⟩
theorem rl_at {w w' : Wd} (l : Le0 w w') {a : Addr} {xs : List V} (h : RL g.K w.F w.H a xs) : RL g.K w'.F w'.H a xs := rl_mono l.kp h
theorem rt_at {w w' : Wd} (l : Le0 w w') {a : Addr} {xs : List V} (h : RT g.K w.F w.H a xs) : RT g.K w'.F w'.H a xs := rt_mono l.kp.ag h
theorem itd_list {w : Wd} {a : Addr} {xs : List V} {ps : List P} (hr : RL g.K w.F w.H a xs) (h : DenL g w.F w.H ps xs) : ItD g w (Itl g.K a) (ps.map .p) := fun w' l k => by
  have hr' := (rl_at l hr).sq
  refine ⟨fun i d e => ?_, xs, hr', by rw [List.length_map, denL_len h]; exact Nat.le_refl _⟩
  rw [List.getElem?_map] at e
  cases hp : ps[i]? with
  | none => rw [hp] at e; cases e
  | some p =>
    rw [hp] at e
    have e1 : D.p p = d := Option.some.inj e
    subst e1
    obtain ⟨x, e2, e3⟩ := denL_get h hp
    refine ⟨⟨xs, x, hr', e2⟩, fun y H' hy => ?_⟩
    obtain ⟨rfl, hy⟩ := hy
    have e4 : x = y := Option.some.inj (e2.symm.trans (hy xs hr'))
    subst e4
    exact ⟨w', rfl, rfl, Le.refl w', k, den_mono l.kp _ _ e3⟩
theorem itd_tup {w : Wd} {a : Addr} {xs : List V} {ps : List P} (hr : RT g.K w.F w.H a xs) (h : DenL g w.F w.H ps xs) : ItD g w (Itt g.K a) (ps.map .p) := fun w' l k => by
  have hr' := (rt_at l hr).sq
  refine ⟨fun i d e => ?_, xs, hr', by rw [List.length_map, denL_len h]; exact Nat.le_refl _⟩
  rw [List.getElem?_map] at e
  cases hp : ps[i]? with
  | none => rw [hp] at e; cases e
  | some p =>
    rw [hp] at e
    have e1 : D.p p = d := Option.some.inj e
    subst e1
    obtain ⟨x, e2, e3⟩ := denL_get h hp
    refine ⟨⟨xs, x, hr', e2⟩, fun y H' hy => ?_⟩
    obtain ⟨rfl, hy⟩ := hy
    have e4 : x = y := Option.some.inj (e2.symm.trans (hy xs hr'))
    subst e4
    exact ⟨w', rfl, rfl, Le.refl w', k, den_mono l.kp _ _ e3⟩
theorem At.finI {ds : List D} {R : It → Hp → Prop} (h : At g E σ ρ Γ H (fun M => some (.ok ds, M)) (RI g R)) : ∃ w, w.H = H ∧ Ok g w ∧ (∀ p ∈ Γ, DenD g w p.1 p.2) ∧ ∀ J, ItD g w J ds → R J H := by
  obtain ⟨w, e1, ok, sl, hΓ, q⟩ := At.okE h
  subst e1
  exact ⟨w, rfl, ok, hΓ, q⟩
theorem di_seq {tg l : Expr} {m : ME} (h : PE X l (tM g E m)) (hK : X.K = g.K := by rfl) : PI X tg l (iM g E (aSeq m)) := PI.mono (pi_seq h) fun σ H R ⟨ρ, h⟩ => tM_imp (At.bind h) fun v H1 ⟨d, h1⟩ => by
  cases d with
  | own n => exact (At.none h1).elim
  | p x =>
    cases x with
    | lst xs =>
      obtain ⟨w, e1, ok, hΓ, q⟩ := At.finI h1
      have hd : Den g w.F w.H (.lst xs) v := hΓ (.p (.lst xs), v) (by simp)
      unfold Den at hd
      obtain ⟨a, vs, rfl, r, dl⟩ := hd
      subst e1
      rw [hK]
      exact ⟨a, vs, rfl, .inl ⟨r.sq, q _ (itd_list r dl)⟩⟩
    | tup xs =>
      obtain ⟨w, e1, ok, hΓ, q⟩ := At.finI h1
      have hd : Den g w.F w.H (.tup xs) v := hΓ (.p (.tup xs), v) (by simp)
      unfold Den at hd
      obtain ⟨a, vs, rfl, r, dl⟩ := hd
      subst e1
      rw [hK]
      exact ⟨a, vs, rfl, .inr ⟨r.sq, q _ (itd_tup r dl)⟩⟩
    | _ => exact (At.none h1).elim
/-- range -/
def rngD (lo hi : Int) : List D := (List.range (hi - lo).toNat).map fun i => .p (.int (lo + (i : Nat)))
theorem itd_rng {w : Wd} {lo : Int} {n : Nat} : ItD g w (Itr lo n) ((List.range n).map fun i => .p (.int (lo + (i : Nat)))) := fun w' l k => by
  refine ⟨fun i d e => ?_, by show n ≤ _; simp⟩
  rw [List.getElem?_map] at e
  by_cases hi : i < n
  · rw [List.getElem?_range hi] at e
    have e1 : D.p (.int (lo + (i : Nat))) = d := Option.some.inj e
    subst e1
    refine ⟨hi, fun y H' hy => ?_⟩
    obtain ⟨rfl, rfl⟩ := hy
    exact ⟨w', rfl, rfl, Le.refl w', k, rfl⟩
  · rw [List.getElem?_eq_none (by simpa using hi)] at e
    cases e
def aRng1 (a : MA) : MA := fun ρ M => bindR (a ρ M) fun ds M => match ds with
  | [.p (.int j)] => if -(2 ^ 62) ≤ j ∧ j < 2 ^ 62 then some (.ok (rngD 0 j), M) else none
  | _ => none
def aRng2 (a : MA) : MA := fun ρ M => bindR (a ρ M) fun ds M => match ds with
  | [.p (.int i), .p (.int j)] => if -(2 ^ 62) ≤ i ∧ i < 2 ^ 62 ∧ -(2 ^ 62) ≤ j ∧ j < 2 ^ 62 then some (.ok (rngD i j), M) else none
  | _ => none
theorem di_rng1 {tg e : Expr} {a : MA} (h : PI X tg e (iRng1 (tMA g E a))) : PI X tg e (iM g E (aRng1 a)) := PI.mono h fun σ H R ⟨ρ, h⟩ => tMA_imp (At.bindA h) fun vs H1 ⟨ds, hl, h1⟩ => by
  split at h1
  · rename_i j
    split at h1
    · rename_i hj
      match vs, hl with
      | [v], _ =>
        obtain ⟨w, e1, ok, hΓ, q⟩ := At.finI h1
        have hd : v = V.int j := hΓ (.p (.int j), v) (by simp)
        subst hd
        refine ⟨j, rfl, hj.1, hj.2, q _ ?_⟩
        unfold rngD
        rw [Int.sub_zero]
        exact itd_rng
    · exact (At.none h1).elim
  · exact (At.none h1).elim
theorem di_rng2 {tg e : Expr} {a : MA} (h : PI X tg e (iRng2 (tMA g E a))) : PI X tg e (iM g E (aRng2 a)) := PI.mono h fun σ H R ⟨ρ, h⟩ => tMA_imp (At.bindA h) fun vs H1 ⟨ds, hl, h1⟩ => by
  split at h1
  · rename_i i j
    split at h1
    · rename_i hj
      match vs, hl with
      | [v, u], _ =>
        obtain ⟨w, e1, ok, hΓ, q⟩ := At.finI h1
        have hd : v = V.int i := hΓ (.p (.int i), v) (by simp)
        have he : u = V.int j := hΓ (.p (.int j), u) (by simp)
        subst hd he
        exact ⟨i, j, rfl, hj, q _ itd_rng⟩
    · exact (At.none h1).elim
  · exact (At.none h1).elim
/-- pairs with their places -/
def enumP (ps : List P) : List D := ps.zipIdx.map fun x => .p (.tup [.int (x.2 : Nat), x.1])
def aEnum (a : MA) : MA := fun ρ M => bindR (a ρ M) fun ds M => match ds with
  | [.p (.lst xs)] => some (.ok (enumP xs), M)
  | [.p (.tup xs)] => some (.ok (enumP xs), M)
  | _ => none
theorem enumP_get {ps : List P} {i : Nat} {d : D} (h : (enumP ps)[i]? = some d) : ∃ p, ps[i]? = some p ∧ d = .p (.tup [.int (i : Nat), p]) := by
  unfold enumP at h
  rw [List.getElem?_map, List.getElem?_zipIdx] at h
  cases hp : ps[i]? with
  | none => rw [hp] at h; cases h
  | some p =>
    rw [hp] at h
    have := Option.some.inj h
    exact ⟨p, rfl, by rw [← this]; simp⟩
theorem pair_new {w : Wd} {T : Addr} {x y : V} {p q : P} (k : Ok g w) (hT : w.H T = none) (h1 : Den g w.F w.H p x) (h2 : Den g w.F w.H q y) : ∃ w2, w2.H = upd w.H T (.tup [x, y]) ∧ w2.M = w.M ∧ Le w w2 ∧ Ok g w2 ∧ DenD g w2 (.p (.tup [p, q])) (.ref T) :=
  ⟨w.lay T (.tup [x, y]), rfl, rfl, lay_le k hT, lay_ok k hT, new_tup k hT (by unfold DenL DenL DenL; exact ⟨x, [y], rfl, h1, y, [], rfl, h2, rfl⟩)⟩
theorem itd_enumL {w : Wd} {a : Addr} {xs : List V} {ps : List P} (hr : RL g.K w.F w.H a xs) (h : DenL g w.F w.H ps xs) : ItD g w (Ite g.K a) (enumP ps) := fun w' l k => by
  have hr' := (rl_at l hr).sq
  refine ⟨fun i d e => ?_, xs, hr', by unfold enumP; simp [denL_len h]⟩
  obtain ⟨p, hp, rfl⟩ := enumP_get e
  obtain ⟨x, e2, e3⟩ := denL_get h hp
  refine ⟨⟨xs, x, hr', e2⟩, fun y H' hy => ?_⟩
  obtain ⟨T, z, rfl, hT, rfl, hz⟩ := hy
  have e4 : x = z := Option.some.inj (e2.symm.trans (hz xs hr'))
  subst e4
  exact pair_new k hT rfl (den_mono l.kp _ _ e3)
theorem itd_enumT {w : Wd} {a : Addr} {xs : List V} {ps : List P} (hr : RT g.K w.F w.H a xs) (h : DenL g w.F w.H ps xs) : ItD g w (IteT g.K a) (enumP ps) := fun w' l k => by
  have hr' := (rt_at l hr).sq
  refine ⟨fun i d e => ?_, xs, hr', by unfold enumP; simp [denL_len h]⟩
  obtain ⟨p, hp, rfl⟩ := enumP_get e
  obtain ⟨x, e2, e3⟩ := denL_get h hp
  refine ⟨⟨xs, x, hr', e2⟩, fun y H' hy => ?_⟩
  obtain ⟨T, z, rfl, hT, rfl, hz⟩ := hy
  have e4 : x = z := Option.some.inj (e2.symm.trans (hz xs hr'))
  subst e4
  exact pair_new k hT rfl (den_mono l.kp _ _ e3)
theorem di_enum {tg e : Expr} {a : MA} (h : PI X tg e (iEnumA X.K (tMA g E a))) (hK : X.K = g.K := by rfl) : PI X tg e (iM g E (aEnum a)) := PI.mono h fun σ H R ⟨ρ, h⟩ => tMA_imp (At.bindA h) fun vs H1 ⟨ds, hl, h1⟩ => by
  split at h1
  · rename_i xs
    match vs, hl with
    | [v], _ =>
      obtain ⟨w, e1, ok, hΓ, q⟩ := At.finI h1
      have hd : Den g w.F w.H (.lst xs) v := hΓ (.p (.lst xs), v) (by simp)
      unfold Den at hd
      obtain ⟨b, ys, rfl, r, dl⟩ := hd
      subst e1
      rw [hK]
      exact ⟨b, ys, rfl, .inl ⟨r.sq, q _ (itd_enumL r dl)⟩⟩
  · rename_i xs
    match vs, hl with
    | [v], _ =>
      obtain ⟨w, e1, ok, hΓ, q⟩ := At.finI h1
      have hd : Den g w.F w.H (.tup xs) v := hΓ (.p (.tup xs), v) (by simp)
      unfold Den at hd
      obtain ⟨b, ys, rfl, r, dl⟩ := hd
      subst e1
      rw [hK]
      exact ⟨b, ys, rfl, .inr ⟨r.sq, q _ (itd_enumT r dl)⟩⟩
  · exact (At.none h1).elim
/-- zip of two lists, two tuples -/
def zipP (ps qs : List P) : List D := (ps.zip qs).map fun x => .p (.tup [x.1, x.2])
def aZip (a : MA) : MA := fun ρ M => bindR (a ρ M) fun ds M => match ds with
  | [.p (.lst xs), .p (.lst ys)] => some (.ok (zipP xs ys), M)
  | [.p (.tup xs), .p (.tup ys)] => some (.ok (zipP xs ys), M)
  | _ => none
theorem zipP_get {ps qs : List P} {i : Nat} {d : D} (h : (zipP ps qs)[i]? = some d) : ∃ p q, ps[i]? = some p ∧ qs[i]? = some q ∧ d = .p (.tup [p, q]) := by
  unfold zipP at h
  rw [List.getElem?_map] at h
  cases hz : (ps.zip qs)[i]? with
  | none => rw [hz] at h; cases h
  | some x =>
    rw [hz] at h
    rw [List.getElem?_zip_eq_some] at hz
    exact ⟨x.1, x.2, hz.1, hz.2, (Option.some.inj h).symm⟩
theorem itd_zipL {w : Wd} {a b : Addr} {xs ys : List V} {ps qs : List P} (hr : RL g.K w.F w.H a xs) (h : DenL g w.F w.H ps xs) (hr1 : RL g.K w.F w.H b ys) (h1 : DenL g w.F w.H qs ys) : ItD g w (Itz g.K a b) (zipP ps qs) := fun w' l k => by
  have hr' := (rl_at l hr).sq
  have hr1' := (rl_at l hr1).sq
  refine ⟨fun i d e => ?_, xs, ys, hr', hr1', by unfold zipP; simp [denL_len h, denL_len h1]; omega⟩
  obtain ⟨p, q, hp, hq, rfl⟩ := zipP_get e
  obtain ⟨x, e2, e3⟩ := denL_get h hp
  obtain ⟨y, e4, e5⟩ := denL_get h1 hq
  refine ⟨⟨xs, ys, x, y, hr', hr1', e2, e4⟩, fun v H' hv => ?_⟩
  obtain ⟨T, z, z1, rfl, hT, rfl, hz, hz1⟩ := hv
  have e6 : x = z := Option.some.inj (e2.symm.trans (hz xs hr'))
  have e7 : y = z1 := Option.some.inj (e4.symm.trans (hz1 ys hr1'))
  subst e6 e7
  exact pair_new k hT (den_mono l.kp _ _ e3) (den_mono l.kp _ _ e5)
theorem itd_zipT {w : Wd} {a b : Addr} {xs ys : List V} {ps qs : List P} (hr : RT g.K w.F w.H a xs) (h : DenL g w.F w.H ps xs) (hr1 : RT g.K w.F w.H b ys) (h1 : DenL g w.F w.H qs ys) : ItD g w (RZ.ItzT g.K a b) (zipP ps qs) := fun w' l k => by
  have hr' := (rt_at l hr).sq
  have hr1' := (rt_at l hr1).sq
  refine ⟨fun i d e => ?_, xs, ys, hr', hr1', by unfold zipP; simp [denL_len h, denL_len h1]; omega⟩
  obtain ⟨p, q, hp, hq, rfl⟩ := zipP_get e
  obtain ⟨x, e2, e3⟩ := denL_get h hp
  obtain ⟨y, e4, e5⟩ := denL_get h1 hq
  refine ⟨⟨xs, ys, x, y, hr', hr1', e2, e4⟩, fun v H' hv => ?_⟩
  obtain ⟨T, z, z1, rfl, hT, rfl, hz, hz1⟩ := hv
  have e6 : x = z := Option.some.inj (e2.symm.trans (hz xs hr'))
  have e7 : y = z1 := Option.some.inj (e4.symm.trans (hz1 ys hr1'))
  subst e6 e7
  exact pair_new k hT (den_mono l.kp _ _ e3) (den_mono l.kp _ _ e5)
theorem di_zip {tg e : Expr} {a : MA} (h : PI X tg e (RZ.iZipA X.K (tMA g E a))) (hK : X.K = g.K := by rfl) : PI X tg e (iM g E (aZip a)) := PI.mono h fun σ H R ⟨ρ, h⟩ => tMA_imp (At.bindA h) fun vs H1 ⟨ds, hl, h1⟩ => by
  split at h1
  · rename_i xs ys
    match vs, hl with
    | [v, u], _ =>
      obtain ⟨w, e1, ok, hΓ, q⟩ := At.finI h1
      have hd : Den g w.F w.H (.lst xs) v := hΓ (.p (.lst xs), v) (by simp)
      have he : Den g w.F w.H (.lst ys) u := hΓ (.p (.lst ys), u) (by simp)
      unfold Den at hd he
      obtain ⟨b, zs, rfl, r, dl⟩ := hd
      obtain ⟨b1, zs1, rfl, r1, dl1⟩ := he
      subst e1
      rw [hK]
      exact ⟨b, b1, zs, zs1, rfl, .inl ⟨r.sq, r1.sq, q _ (itd_zipL r dl r1 dl1)⟩⟩
  · rename_i xs ys
    match vs, hl with
    | [v, u], _ =>
      obtain ⟨w, e1, ok, hΓ, q⟩ := At.finI h1
      have hd : Den g w.F w.H (.tup xs) v := hΓ (.p (.tup xs), v) (by simp)
      have he : Den g w.F w.H (.tup ys) u := hΓ (.p (.tup ys), u) (by simp)
      unfold Den at hd he
      obtain ⟨b, zs, rfl, r, dl⟩ := hd
      obtain ⟨b1, zs1, rfl, r1, dl1⟩ := he
      subst e1
      rw [hK]
      exact ⟨b, b1, zs, zs1, rfl, .inr ⟨r.sq, r1.sq, q _ (itd_zipT r dl r1 dl1)⟩⟩
  · exact (At.none h1).elim
end
end DL

set_option maxHeartbeats 4000000
namespace DL
open PySem PySem.Spec PyProof.Rows L2
section
variable {g : G}
/-! ### defs -/
def SpM (g : G) (f : On) : Sp := fun vs H Q _ => rDn g E0 f vs H Q
def SpP (g : G) (F : List P → Option P) : Sp := fun vs H Q _ => rDn g E0 (liftn F) vs H Q
def startR (n : Nat) (ds : List D) : Rho := ds.map some ++ List.replicate (n - ds.length) none
/-- the def with k parameters, n slots, the body m -/
def fnM (k n : Nat) (m : MS) : On := fun ds M => if ds.length = k then bindR (m (startR n ds) M) fun fl M => match fl with
    | .ret d => some (.ok d, M)
    | .nx _ => some (.ok (.p .non), M)
    | _ => none
  else none
theorem fnM_len {k n : Nat} {m : MS} {ds : List D} {M : Mem} {r : Res D × Mem} (h : fnM k n m ds M = some r) : ds.length = k := by
  unfold fnM at h
  split at h
  · assumption
  · cases h
theorem start_slots {w : Wd} {ds : List D} {vs : List V} (h : DenDs g w ds vs) (N : List Str) : Slots g w (startR N.length ds) (L2.start N vs) := by
  unfold startR L2.start
  rw [h.length]
  have h1 : Slots g w (ds.map some) (vs.map some) := by
    induction h with
    | nil => exact .nil
    | cons r t ih => exact .cons r ih
  have h2 : ∀ n, Slots g w (List.replicate n none) (List.replicate n none) := fun n => by
    induction n with
    | zero => exact .nil
    | succ n ih => exact .cons trivial ih
  exact paired_append h1 (h2 _)
theorem fn_read {k : Nat} {m : MS} {vs : List V} {Q : VK} {N : List Str} {H : Hp} (h : rDn g E0 (fnM k N.length m) vs H Q) : tS g E0 m { nx := fun _ H' => Q .non H', rt := Q } (L2.start N vs) H := by
  obtain ⟨w, ds, e, ok, hd, r, M', hk, hp⟩ := h
  subst e
  unfold fnM at hk
  split at hk
  · refine tS_then (Dn := { nx := fun _ H' => Q .non H', rt := Q }) (r := r.casesOn (fun d => .ok (.ret d)) fun c fs => .exc c fs) ok (start_slots hd N) (k := fun fl M => match fl with
      | .ret d => some (.ok (.ret d), M)
      | .nx _ => some (.ok (.ret (.p .non)), M)
      | _ => none) (M' := M') ?_ ?_ ?_
    · rcases out_split hk with ⟨fl, M1, e1, e2⟩ | ⟨c, fs, e1, e2⟩
      · rw [e1]
        cases fl with
        | ret d =>
          have e3 := Option.some.inj e2
          have e4 : Res.ok d = r := congrArg Prod.fst e3
          have e5 : M1 = M' := congrArg Prod.snd e3
          subst e4 e5
          rfl
        | nx ρ' =>
          have e3 := Option.some.inj e2
          have e4 : Res.ok (D.p .non) = r := congrArg Prod.fst e3
          have e5 : M1 = M' := congrArg Prod.snd e3
          subst e4 e5
          rfl
        | brk ρ' => cases e2
        | ct ρ' => cases e2
      · subst e2
        rw [e1]
        rfl
    · cases r with
      | ok d => exact hp
      | exc c fs => exact hp
    · intro fl w1 M1 l1 k1 em e2 po
      cases fl with
      | ret d =>
        subst em
        exact post_ok (R := RS g { nx := fun _ H' => Q .non H', rt := Q }) (a := Fl.ret d) k1 e2 po
      | nx ρ' =>
        subst em
        have q := post_ok (R := RS g { nx := fun _ H' => Q .non H', rt := Q }) (a := Fl.ret (.p .non)) k1 e2 po
        exact fun σ' _ => q .non rfl
      | brk ρ' => cases e2
      | ct ρ' => cases e2
  · cases hk
variable {Pg : Program} {w : World} {mg : Str → Option Value} {base : Heap}
theorem fn_ok {x qual : Str} {params : Arguments} {body : List Stmt} {scope : Scope} {dvs : List V} {kws : List (Str × V)} {f : Addr} {fd : FuncData} {N ps : List Str} {k : Nat} {m : MS}
    (F : FunD g.K x qual params body scope dvs kws f fd) (S : FnScope N ps scope)
    (hb : ∀ (cdv : Value) (A : Around) (outer : List Env) (s : Shared) (H : Hp) (E : XK), Room k (A.deeper (envOfC qual scope s.heap.objs.size f cdv)) → PSs (cxOf CX0 Pg w g.K mg base N qual scope f cdv A outer s H E).nox body (tS g E0 m)) :
    FnOk Pg w g.K mg base CX0 (k + 1) f fd ps (SpM g (fnM ps.length N.length m)) := by
  refine F.ok S (fun vs H Q E ⟨w', ds, e, ok, hd, r, M', hk, hp⟩ => ?_) fun cdv A outer s H vs Q E hr h => ⟨_, PSs.nox (hb cdv A outer s H E hr), fn_read h⟩
  rw [← hd.length]
  exact fnM_len hk
theorem rDn_imp {E : XK} {f f' : On} {vs : List V} {H : Hp} {Q : VK} (h : rDn g E f' vs H Q) (q : ∀ ds M r M', f' ds M = some (r, M') → f ds M = some (r, M')) : rDn g E f vs H Q := by
  obtain ⟨w, ds, e, ok, hd, r, M', hk, hp⟩ := h
  exact ⟨w, ds, e, ok, hd, r, M', q _ _ _ _ hk, hp⟩
/-- a def by its values: all parameters are given -/
theorem fn_raw {fd : FuncData} {ps : List Str} {f : Addr} {k : Nat} {m : On} (F : FnOk Pg w g.K mg base CX0 k f fd ps (SpM g m)) (hb : Binds g.K fd ps []) : FnR Pg w g.K mg base CX0 k f (SpM g m) :=
  (F.raw hb .nil).imp fun vs H Q E h => by rw [List.append_nil]; exact h
/-- .. with defaults behind -/
theorem denDs_append {w : Wd} {ds es : List D} {vs us : List V} (h : DenDs g w ds vs) (h' : DenDs g w es us) : DenDs g w (ds ++ es) (vs ++ us) := paired_append h h'
theorem fn_rawD {fd : FuncData} {ps : List Str} {f : Addr} {k : Nat} {m : On} {dvs : List V} {ds : List D} (F : FnOk Pg w g.K mg base CX0 k f fd ps (SpM g m)) (hb : ∃ us, Vals dvs us ∧ Binds g.K fd ps us) (hd : ∀ w : Wd, DenDs g w ds dvs) :
    FnR Pg w g.K mg base CX0 k f (SpM g fun es M => m (es ++ ds) M) := by
  obtain ⟨us, hv, hb⟩ := hb
  refine (F.raw hb hv).imp fun vs H Q E ⟨w, es, e, ok, h1, go⟩ => ⟨w, es ++ ds, e, ok, denDs_append h1 (hd w), go⟩
theorem fn_imp {f : Addr} {k : Nat} {m m' : On} (F : FnR Pg w g.K mg base CX0 k f (SpM g m)) (q : ∀ ds M r M', m' ds M = some (r, M') → m ds M = some (r, M')) : FnR Pg w g.K mg base CX0 k f (SpM g m') :=
  F.imp fun vs H Q E h => rDn_imp h q

/-! ### what is left behind a def: only what the caller knows -/
def closedD (n : Nat) : D → Prop
  | .p _ => True
  | .own j => j < n
def closedMO (n : Nat) : MO → Prop
  | .lst ds => ∀ d ∈ ds, closedD n d
  | .tup ds => ∀ d ∈ ds, closedD n d
  | .dic _ vs => ∀ d ∈ vs, closedD n d
  | .ins _ fs => ∀ d ∈ fs, ∀ x, d = some x → closedD n x
  | .scr ds => ∀ d ∈ ds, closedD n d
  | .dead => True
theorem denDs_mem {w : Wd} : ∀ {ds : List D} {vs : List V}, DenDs g w ds vs → ∀ d ∈ ds, ∃ v, DenD g w d v
  | _, _, .nil, d, h => by simp at h
  | _, _, .cons r t, d, h => by
    rcases List.mem_cons.mp h with rfl | h
    · exact ⟨_, r⟩
    · exact denDs_mem t d h
theorem closed_of {w : Wd} {d : D} {v : V} (h : DenD g w d v) : closedD w.io.length d := by
  cases d with
  | p x => trivial
  | own j =>
    obtain ⟨a, dx, _, q⟩ := h
    exact (List.getElem?_eq_some_iff.mp q).1
theorem closedMO_of {w : Wd} {a dx : Addr} {o : MO} (h : MDen g w a dx o) : closedMO w.io.length o := by
  cases o with
  | lst ds =>
    obtain ⟨_, xs, _, q⟩ := h
    exact fun d hd => let ⟨v, hv⟩ := denDs_mem q d hd; closed_of hv
  | tup ds =>
    obtain ⟨_, xs, _, q⟩ := h
    exact fun d hd => let ⟨v, hv⟩ := denDs_mem q d hd; closed_of hv
  | dic ks ds =>
    obtain ⟨_, xs, _, _, q⟩ := h
    exact fun d hd => let ⟨v, hv⟩ := denDs_mem q d hd; closed_of hv
  | ins c fs =>
    obtain ⟨xs, _, _, _, q⟩ := h
    intro d hd x e
    subst e
    obtain ⟨i, hi⟩ := List.getElem?_of_mem hd
    obtain ⟨v, _, hv⟩ := q i x hi
    exact closed_of hv
  | scr ds =>
    obtain ⟨_, xs, _, q⟩ := h
    exact fun d hd => let ⟨v, hv⟩ := denDs_mem q d hd; closed_of hv
  | dead => trivial
/-- the world behind: what was made within is frozen, its numbers are forgotten -/
def cutW (w w2 : Wd) (M' : Mem) : Wd := ⟨fun a => w2.F a ∨ ∃ p ∈ w2.io.drop w.io.length, a = p.1 ∨ a = p.2, w.io, M', w2.H⟩
theorem cut_denD {w w2 : Wd} {M' : Mem} (l : Le w w2) {d : D} {v : V} (h : DenD g w2 d v) (hc : closedD w.io.length d) : DenD g (cutW w w2 M') d v := by
  cases d with
  | p x => exact den_mono (.same fun a f => ⟨.inl f, fun o e => e⟩) x v h
  | own j =>
    obtain ⟨a, dx, e, q⟩ := h
    obtain ⟨more, em, _⟩ := l.pre
    rw [em, List.getElem?_append_left hc] at q
    exact ⟨a, dx, e, q⟩
theorem cut_denDs {w w2 : Wd} {M' : Mem} (l : Le w w2) : ∀ {ds : List D} {vs : List V}, DenDs g w2 ds vs → (∀ d ∈ ds, closedD w.io.length d) → DenDs g (cutW w w2 M') ds vs
  | _, _, .nil, _ => .nil
  | _, _, .cons r t, hc => .cons (cut_denD l r (hc _ (by simp))) (cut_denDs l t fun d hd => hc d (by simp [hd]))
theorem cut_le {w w2 : Wd} {M' : Mem} (k : Ok g w) (l : Le w w2) : Le w (cutW w w2 M') where
  fm := fun a f => .inl (l.fm a f)
  keep := l.keep
  fnew := fun a f => by
    rcases f with f | ⟨p, hp, ha⟩
    · exact l.fnew a f
    · obtain ⟨more, em, hm⟩ := l.pre
      rw [em, List.drop_left] at hp
      right
      rcases ha with rfl | rfl
      · exact (hm p hp).1
      · exact (hm p hp).2
  alive := l.alive
  pre := ⟨[], by simp [cutW], by simp⟩
theorem cut_ok {w w2 : Wd} {M' extra : Mem} (k : Ok g w) (l : Le w w2) (k2 : Ok g w2) (em : w2.M = M' ++ extra) (hl : M'.length = w.M.length) (hc : ∀ (i : Nat) o, M'[i]? = some o → w.M[i]? = some o ∨ closedMO w.io.length o) : Ok g (cutW w w2 M') where
  len := by show w.io.length = M'.length; rw [hl, k.len]
  nd := k.nd
  fdom := fun a f => by
    rcases f with f | ⟨p, hp, ha⟩
    · exact k2.fdom a f
    · exact k2.ownH ⟨p, List.mem_of_mem_drop hp, ha⟩
  disj := fun a h f => by
    rcases f with f | ⟨p, hp, ha⟩
    · exact k2.disj a (l.owned h) f
    · obtain ⟨q, hq, hb⟩ := h
      obtain ⟨more, e1, hm⟩ := l.pre
      obtain ⟨i, hi⟩ := List.getElem?_of_mem hq
      obtain ⟨j, hj⟩ := List.getElem?_of_mem hp
      rw [List.getElem?_drop] at hj
      have hi' : i < w.io.length := (List.getElem?_eq_some_iff.mp hi).1
      have hi2 : w2.io[i]? = some q := l.io hi
      have := k2.nd i (w.io.length + j) q p hi2 hj (by omega)
      rcases ha with ha | ha <;> rcases hb with hb | hb
      · exact this.1 (hb.symm.trans ha)
      · exact this.2.2.1 (hb.symm.trans ha)
      · exact this.2.1 (hb.symm.trans ha)
      · exact this.2.2.2 (hb.symm.trans ha)
  own := fun i p o h1 h2 => by
    have h2' : M'[i]? = some o := h2
    have hi : i < M'.length := (List.getElem?_eq_some_iff.mp h2').1
    have q : MDen g w2 p.1 p.2 o := k2.own i p o (l.io h1) (by rw [em, List.getElem?_append_left hi]; exact h2')
    have hcl : closedMO w.io.length o := by
      rcases hc i o h2' with z | z
      · exact closedMO_of (k.own i p o h1 z)
      · exact z
    cases o with
    | lst ds =>
      obtain ⟨e, xs, a1, a2⟩ := q
      exact ⟨e, xs, a1, cut_denDs l a2 hcl⟩
    | tup ds =>
      obtain ⟨e, xs, a1, a2⟩ := q
      exact ⟨e, xs, a1, cut_denDs l a2 hcl⟩
    | dic ks ds =>
      obtain ⟨e, xs, a1, a0, a2⟩ := q
      exact ⟨e, xs, a1, a0, cut_denDs l a2 hcl⟩
    | ins c fs =>
      obtain ⟨xs, a1, a2, a3, a4⟩ := q
      refine ⟨xs, a1, a2, a3, fun j d e => ?_⟩
      obtain ⟨x, b1, b2⟩ := a4 j d e
      exact ⟨x, b1, cut_denD l b2 (hcl _ (List.mem_of_getElem? e) d rfl)⟩
    | scr ds =>
      obtain ⟨e, xs, a1, a2⟩ := q
      exact ⟨e, xs, a1, cut_denDs l a2 hcl⟩
    | dead => exact q
/-- what a thing made within is worth when it is frozen -/
def Frz (n : Nat) (extra : Mem) : D → P → Prop := fun d c => d = .p c ∨
  (∃ (i : Nat) (qs : List P), d = .own (n + i) ∧ extra[i]? = some (.lst (qs.map .p)) ∧ c = .lst qs) ∨
  (∃ (i : Nat) (cl : Str) (qs : List P), d = .own (n + i) ∧ extra[i]? = some (.ins cl (qs.map fun q => some (.p q))) ∧ qs ≠ [] ∧ c = .obj cl qs)
theorem allP_map (qs : List P) : allP (qs.map .p) = some qs := by
  induction qs with
  | nil => rfl
  | cons q r ih =>
    show allP (.p q :: r.map .p) = _
    unfold allP
    rw [ih]
theorem cut_frz {w w2 : Wd} {M' extra : Mem} (k : Ok g w) (l : Le w w2) (k2 : Ok g w2) (em : w2.M = M' ++ extra) (hl : M'.length = w.M.length) {d : D} {c : P} {v : V} (hf : Frz w.M.length extra d c) (h : DenD g w2 d v) : Den g (cutW w w2 M').F (cutW w w2 M').H c v := by
  have kp : Kp w2.F (cutW w w2 M').F w2.H (cutW w w2 M').H := .same fun a f => ⟨.inl f, fun o e => e⟩
  rcases hf with rfl | ⟨i, qs, rfl, he, rfl⟩ | ⟨i, cl, qs, rfl, he, hne, rfl⟩
  · exact den_mono kp c v h
  · have hm : w2.M[w.M.length + i]? = some (.lst (qs.map .p)) := by
      rw [em, List.getElem?_append_right (by omega), hl]
      rw [show w.M.length + i - w.M.length = i by omega]
      exact he
    obtain ⟨a, dx, rfl, hio, e1, xs, h1, h2⟩ := own_at k2 h hm
    unfold Den
    refine ⟨a, xs, rfl, .inl ⟨.inr ⟨(a, dx), ?_, .inl rfl⟩, h1⟩, denL_mono kp _ _ (denL_of (allP_map qs) h2)⟩
    apply List.mem_of_getElem? (i := i)
    rw [List.getElem?_drop, k.len]
    exact hio
  · have hm : w2.M[w.M.length + i]? = some (.ins cl (qs.map fun q => some (.p q))) := by
      rw [em, List.getElem?_append_right (by omega), hl]
      rw [show w.M.length + i - w.M.length = i by omega]
      exact he
    obtain ⟨a, dx, rfl, hio, xs, h1, h2, h3, h4⟩ := own_at k2 h hm
    have hmem : (a, dx) ∈ w2.io.drop w.io.length := by
      apply List.mem_of_getElem? (i := i)
      rw [List.getElem?_drop, k.len]
      exact hio
    -- the slots as far as they are said
    have key : ∀ (qs : List P) (n : Nat), (∀ (j : Nat) (d : D), (qs.map fun q => some (D.p q))[j]? = some (some d) → ∃ x, xs[n + j]? = some (some x) ∧ DenD g w2 d x) → ∃ ys : List V, DenL g w2.F w2.H qs ys ∧ ∀ (j : Nat) y, ys[j]? = some y → xs[n + j]? = some (some y) := by
      intro qs
      induction qs with
      | nil => intro n _; exact ⟨[], by unfold DenL; rfl, by simp⟩
      | cons q r ih =>
        intro n hq
        obtain ⟨x, e1, e2⟩ := hq 0 (.p q) rfl
        obtain ⟨ys, f1, f2⟩ := ih (n + 1) fun j d e => by
          obtain ⟨x, a1, a2⟩ := hq (j + 1) d (by simpa using e)
          exact ⟨x, by rw [show n + 1 + j = n + (j + 1) by omega]; exact a1, a2⟩
        refine ⟨x :: ys, by unfold DenL; exact ⟨x, ys, rfl, e2, f1⟩, fun j y e => ?_⟩
        cases j with
        | zero =>
          simp at e
          subst e
          exact e1
        | succ j =>
          rw [show n + (j + 1) = n + 1 + j by omega]
          exact f2 j y (by simpa using e)
    obtain ⟨ys, f1, f2⟩ := key qs 0 fun j d e => by
      obtain ⟨x, a1, a2⟩ := h4 j d e
      exact ⟨x, by rw [Nat.zero_add]; exact a1, a2⟩
    rcases h1 with ⟨h1, e0⟩ | ⟨h1, h5⟩
    · subst e0
      cases qs with
      | nil => exact absurd rfl hne
      | cons q r =>
        obtain ⟨x, e1, _⟩ := h4 0 (.p q) rfl
        simp at e1
    · unfold Den
      refine ⟨a, dx, xs, ys, rfl, ⟨.inr ⟨(a, dx), hmem, .inl rfl⟩, .inr ⟨(a, dx), hmem, .inr rfl⟩⟩, h2, ⟨h1, h5⟩, fun j y e => by have := f2 j y e; rwa [Nat.zero_add] at this, denL_mono kp _ _ f1⟩
end
end DL

set_option maxHeartbeats 4000000
namespace DL
open PySem PySem.Spec PyProof.Rows L2
section
variable {g : G} {Pg : Program} {w : World} {mg : Str → Option Value} {base : Heap}
theorem allP_eq : ∀ {ds : List D} {ps : List P}, allP ds = some ps → ds = ps.map .p
  | [], ps, h => by simp [allP] at h; subst h; rfl
  | .own _ :: _, _, h => by simp [allP] at h
  | .p a :: r, ps, h => by
    unfold allP at h
    cases hr : allP r with
    | none => rw [hr] at h; cases h
    | some s =>
      rw [hr] at h
      have := Option.some.inj h
      subst this
      rw [allP_eq hr]
      rfl
theorem liftn_eq {F : List P → Option P} {ds : List D} {M M' : Mem} {r : Res D} (h : liftn F ds M = some (r, M')) : ∃ ps c, ds = ps.map .p ∧ F ps = some c ∧ r = .ok (.p c) ∧ M' = M := by
  unfold liftn at h
  cases hp : allP ds with
  | none => rw [hp] at h; cases h
  | some ps =>
    rw [hp] at h
    simp only at h
    cases hf : F ps with
    | none => rw [hf] at h; cases h
    | some c =>
      rw [hf] at h
      have e := Option.some.inj h
      exact ⟨ps, c, allP_eq hp, hf, (congrArg Prod.fst e).symm, (congrArg Prod.snd e).symm⟩
/-- a def that keeps nothing: a function of data -/
theorem pure_of {f : Addr} {k : Nat} {m : On} {F : List P → Option P} (R : FnR Pg w g.K mg base CX0 k f (SpM g m))
    (q : ∀ ps c, F ps = some c → ∀ M, ∃ extra d0, m (ps.map .p) M = some (.ok d0, M ++ extra) ∧ Frz M.length extra d0 c) : FnR Pg w g.K mg base CX0 k f (SpM g (liftn F)) :=
  R.imp fun vs H Q E ⟨w, ds, e, ok, hd, r, M', hk, hp⟩ => by
    obtain ⟨ps, c, rfl, hf, rfl, rfl⟩ := liftn_eq hk
    obtain ⟨extra, d0, h1, h2⟩ := q ps c hf w.M
    refine ⟨w, _, e, ok, hd, _, _, h1, fun w2 em l k2 v hv => ?_⟩
    exact hp (cutW w w2 w.M) rfl (cut_le ok l) (cut_ok ok l k2 em rfl fun i o h => .inl h) v (cut_frz ok l k2 em rfl h2 hv)
/-- a def that changes what it is given -/
theorem trunc_of {f : Addr} {k : Nat} {m m' : On} (R : FnR Pg w g.K mg base CX0 k f (SpM g m))
    (q : ∀ ds M r M', m' ds M = some (r, M') → ∃ d extra d0, r = .ok d ∧ m ds M = some (.ok d0, M' ++ extra) ∧ M'.length = M.length ∧ (∀ (i : Nat) o, M'[i]? = some o → M[i]? = some o ∨ closedMO M.length o) ∧ ((∃ c, d = .p c ∧ Frz M.length extra d0 c) ∨ ∃ j, d = .own j ∧ d0 = .own j ∧ j < M.length)) :
    FnR Pg w g.K mg base CX0 k f (SpM g m') :=
  R.imp fun vs H Q E ⟨w, ds, e, ok, hd, r, M', hk, hp⟩ => by
    obtain ⟨d, extra, d0, rfl, h1, hl, hc, h2⟩ := q _ _ _ _ hk
    refine ⟨w, _, e, ok, hd, _, _, h1, fun w2 em l k2 v hv => ?_⟩
    refine hp (cutW w w2 M') rfl (cut_le ok l) (cut_ok ok l k2 em hl fun i o h => ?_) v ?_
    · rw [ok.len]; exact hc i o h
    · rcases h2 with ⟨c, rfl, hf⟩ | ⟨j, rfl, rfl, hj⟩
      · exact cut_frz ok l k2 em hl hf hv
      · exact cut_denD l hv (by show j < w.io.length; rw [ok.len]; exact hj)
end
section
variable {X : Cx} {g : G} {E : XK} {σ : L2.St} {ρ : Rho} {Γ : List (D × V)} {H : Hp}
/-! ### calls -/
theorem pe_callR {CX : CXT} {k : Nat} {f : Addr} {sp : Sp} {x : Str} {p pos : Pos} {e : Expr} {es : List Expr} {t : TA} (F : FnR X.prog X.w X.K X.mg X.base CX k f sp) (hr : Room k X.A) (hg : Gl X x) (hm : X.mg x = some (.ref f)) (hk : PySem.W.keepIn X.K (.ref f) = true) (hx : Passes CX X E)
    (ha : PA X (e :: es) t) (hdb : (x == ("__debug__" : Str)) = false := by decide) (he : starEach (e :: es) X.env = (false, eval e X.env) :: starEach es X.env := by rfl) (hpl : (backTo pos (starEach es X.env)).any (·.1) = false := by rfl) :
    PE X (.Call (.Name x p) (e :: es) [] pos) (fun σ H Q => t σ H fun vs H1 => sp vs H1 Q E) := by
  refine ⟨fun pins s σ H Q I h => ?_⟩
  refine wpAny_Call_Name_kw (ld_glob I hg hm ?_ hdb)
  refine PySem.W.callWith_K (h₀ := X.base) I.ok.mod.kin hk (thn (ha.run pos pins s σ H _ I h) fun us s1 ⟨vs, H1, I1, r, q⟩ => ⟨I1.kIn, ?_⟩) he hpl
  exact wpAny_call (run_fnR F hr hx I1 r q)
theorem passE {X : Cx} : Passes CX0 X E := fun _ _ _ _ _ _ _ h => h.elim
def eCall (f : On) (a : MA) : ME := fun ρ M => bindR (a ρ M) fun ds M => noX (f ds M)
theorem go_noX {w : Wd} {o : Out D} {Q : VK} (h : Go g E w (noX o) Q) : Go g E0 w o Q := by
  obtain ⟨r, M', e, po⟩ := h
  cases o with
  | none => cases e
  | some x =>
    obtain ⟨r1, M1⟩ := x
    cases r1 with
    | ok a =>
      have e3 := Option.some.inj e
      have e4 : Res.ok a = r := congrArg Prod.fst e3
      have e5 : M1 = M' := congrArg Prod.snd e3
      subst e4 e5
      exact ⟨_, _, rfl, po⟩
    | exc c fs => cases e
theorem d_call {k : Nat} {f : Addr} {m : On} {x : Str} {p pos : Pos} {e : Expr} {es : List Expr} {a : MA} (F : FnR X.prog X.w X.K X.mg X.base CX0 k f (SpM g m)) (hr : Room k X.A) (hg : Gl X x) (hm : X.mg x = some (.ref f)) (hk : PySem.W.keepIn X.K (.ref f) = true)
    (ha : PA X (e :: es) (tMA g E a)) (hdb : (x == ("__debug__" : Str)) = false := by decide) (he : starEach (e :: es) X.env = (false, eval e X.env) :: starEach es X.env := by rfl) (hpl : (backTo pos (starEach es X.env)).any (·.1) = false := by rfl) :
    PE X (.Call (.Name x p) (e :: es) [] pos) (tM g E (eCall m a)) := PE.mono (pe_callR (E := E) F hr hg hm hk passE ha hdb he hpl) fun σ H Q ⟨ρ, h⟩ => tMA_imp (At.bindA h) fun vs H1 ⟨ds, hl, h1⟩ => by
  obtain ⟨w, e1, ok, hd, go⟩ := at_zip hl h1
  exact ⟨w, ds, e1, ok, hd, go_noX go⟩
/-- one of two ways -/
theorem PE.or {e : Expr} {t t' : TE} (h : PE X e t) (h' : PE X e t') : PE X e (fun σ H Q => t σ H Q ∨ t' σ H Q) := ⟨fun pins s σ H Q I z => z.elim (h.run pins s σ H Q I) (h'.run pins s σ H Q I)⟩
def eEither (a b : ME) : ME := fun ρ M => orO (a ρ M) (b ρ M)
theorem d_either {e : Expr} {a b : ME} (h : PE X e (tM g E a)) (h' : PE X e (tM g E b)) : PE X e (tM g E (eEither a b)) := PE.mono (PE.or h h') fun σ H Q ⟨ρ, w, e1, ok, sl, hΓ, r, M', hk, hp⟩ => by
  cases ha : a ρ w.M with
  | none =>
    right
    refine ⟨ρ, w, e1, ok, sl, hΓ, r, M', ?_, hp⟩
    have hk' : orO (a ρ w.M) (b ρ w.M) = some (r, M') := hk
    rw [ha] at hk'
    exact hk'
  | some x =>
    left
    have hk' : orO (a ρ w.M) (b ρ w.M) = some (r, M') := hk
    rw [ha] at hk'
    have : x = (r, M') := Option.some.inj hk'
    subst this
    exact ⟨ρ, w, e1, ok, sl, hΓ, r, M', ha, hp⟩
/-! ### built-in functions, types, by values -/
def eCallB (f : On) (a : MA) : ME := fun ρ M => bindR (a ρ M) f
theorem d_callB {id : String} {f : On} {x : Str} {p pos : Pos} {e : Expr} {es : List Expr} {a : MA} (h : ∀ t, CallR X (.builtin id) (rDn g E f) → PA X (e :: es) t → PE X (.Call (.Name x p) (e :: es) [] pos) (tCB (rDn g E f) t)) (hc : CallR X (.builtin id) (rDn g E f)) (ha : PA X (e :: es) (tMA g E a)) :
    PE X (.Call (.Name x p) (e :: es) [] pos) (tM g E (eCallB f a)) := PE.mono (h _ hc ha) fun σ H Q ⟨ρ, h⟩ => tMA_imp (At.bindA h) fun vs H1 ⟨ds, hl, h1⟩ => by
  obtain ⟨w, e1, ok, hd, go⟩ := at_zip hl h1
  exact ⟨w, ds, e1, ok, hd, go⟩
theorem d_callTy {id : String} {f : On} {x : Str} {p pos : Pos} {e : Expr} {es : List Expr} {a : MA} (h : ∀ t, CallR X (.type id) (rDn g E f) → PA X (e :: es) t → PE X (.Call (.Name x p) (e :: es) [] pos) (tCB (rDn g E f) t)) (hc : CallR X (.type id) (rDn g E f)) (ha : PA X (e :: es) (tMA g E a)) :
    PE X (.Call (.Name x p) (e :: es) [] pos) (tM g E (eCallB f a)) := PE.mono (h _ hc ha) fun σ H Q ⟨ρ, h⟩ => tMA_imp (At.bindA h) fun vs H1 ⟨ds, hl, h1⟩ => by
  obtain ⟨w, e1, ok, hd, go⟩ := at_zip hl h1
  exact ⟨w, ds, e1, ok, hd, go⟩
/-! ### instances with slots -/
/-- an instance of c: frozen, or one's own -/
def insD (c : Str) (d : D) (M : Mem) : Bool := match d with
  | .p (.obj c' _) => c' == c
  | .own n => match M[n]? with
    | some (.ins c' _) => c' == c
    | _ => false
  | _ => false
theorem insD_at {w : Wd} (ok : Ok g w) {c : Str} {d : D} {v : V} (h : insD c d w.M = true) (hd : DenD g w d v) : ∃ a dx vs, v = .ref a ∧ SlX.Slt w.H a (g.ct c) dx vs := by
  cases d with
  | p x =>
    cases x with
    | obj c' fs =>
      have e : c' = c := eq_of_beq h
      subst e
      have hd' : Den g w.F w.H (.obj c' fs) v := hd
      unfold Den at hd'
      obtain ⟨a, dx, vs, xs, rfl, f, n, r, z, q⟩ := hd'
      exact ⟨a, dx, vs, rfl, .inr r⟩
    | _ => cases h
  | own n =>
    unfold insD at h
    simp only at h
    split at h
    · rename_i c' fs hm
      have e : c' = c := eq_of_beq h
      subst e
      obtain ⟨a, dx, rfl, _, xs, h1, _⟩ := own_at ok hd hm
      exact ⟨a, dx, xs, rfl, h1⟩
    · cases h
def eMeth (c : Str) (f : On) (o : ME) (a : MA) : ME := fun ρ M => bindR (o ρ M) fun x M => if insD c x M then bindR (a ρ M) fun ds M => noX (f (x :: ds) M) else none
theorem d_meth {c : Str} {k : Nat} {h : Addr} {m : Str} {f : On} {o e : Expr} {es : List Expr} {mo : ME} {a : MA} {pos apos : Pos} {pl : Sem Bool} (he : PE X o (tM g E mo)) (hc : SlX.SCls X.K (g.ct c)) (hm : Meth X.K (g.ct c) m h) (F : FnR X.prog X.w X.K X.mg X.base CX0 k h (SpM g f)) (hr : Room k X.A) (ha : PA X (e :: es) (tMA g E a))
    (hst : starEach (e :: es) X.env = (false, eval e X.env) :: starEach es X.env := by rfl) (hpl : (backTo pos (starEach es X.env)).any (·.1) = false := by rfl)
    (ht : eval (.Call (.Attribute o m apos) (e :: es) [] pos) X.env = (do
      let ov ← eval o X.env
      standAt apos.atName
      let (f, first) ← holding [ov] (getMethod ov m pl)
      callWith pos f first (backTo pos (starEach (e :: es) X.env)) (backToKw pos (keywordEach [] X.env))) := by rfl) :
    PE X (.Call (.Attribute o m apos) (e :: es) [] pos) (tM g E (eMeth c f mo a)) := PE.mono (SlX.pe_methSl (E := E) he hc hm F hr passE ha hst hpl ht) fun σ H Q ⟨ρ, h⟩ => tM_imp (At.bind h) fun v H1 ⟨d, h1⟩ => by
  obtain ⟨w, e1, ok, sl, hΓ, r, M', hk, hp⟩ := h1
  simp only at hk
  split at hk
  · rename_i hi
    subst e1
    obtain ⟨b, dx, vs, rfl, hs⟩ := insD_at ok hi (hΓ (d, v) (by simp))
    refine ⟨b, dx, vs, rfl, hs, ?_⟩
    have h2 : At g E σ ρ ((d, V.ref b) :: []) w.H (fun M => bindR (a ρ M) fun ds M => noX (f (d :: ds) M)) (RV g Q) := ⟨w, rfl, ok, sl, hΓ, r, M', hk, hp⟩
    refine tMA_imp (At.bindA h2) fun us H2 ⟨ds, hl, h3⟩ => ?_
    obtain ⟨w2, e2, ok2, sl2, hΓ2, go⟩ := h3
    exact ⟨w2, d :: ds, e2, ok2, .cons (hΓ2 (d, V.ref b) (by simp)) (zipDen hl fun p hp => hΓ2 p (by simp [hp])), go_noX go⟩
  · cases hk
theorem d_meth0 {c : Str} {k : Nat} {h : Addr} {m : Str} {f : On} {o : Expr} {mo : ME} {pos apos : Pos} {pl : Sem Bool} (he : PE X o (tM g E mo)) (hc : SlX.SCls X.K (g.ct c)) (hm : Meth X.K (g.ct c) m h) (F : FnR X.prog X.w X.K X.mg X.base CX0 k h (SpM g f)) (hr : Room k X.A)
    (ht : eval (.Call (.Attribute o m apos) [] [] pos) X.env = (do
      let ov ← eval o X.env
      standAt apos.atName
      let (f, first) ← holding [ov] (getMethod ov m pl)
      callWith pos f first (backTo pos (starEach [] X.env)) (backToKw pos (keywordEach [] X.env))) := by rfl) :
    PE X (.Call (.Attribute o m apos) [] [] pos) (tM g E (eMeth c f mo aNil)) := PE.mono (SlX.pe_methSl0 (E := E) he hc hm F hr passE ht) fun σ H Q ⟨ρ, h⟩ => tM_imp (At.bind h) fun v H1 ⟨d, h1⟩ => by
  obtain ⟨w, e1, ok, sl, hΓ, r, M', hk, hp⟩ := h1
  simp only at hk
  split at hk
  · rename_i hi
    subst e1
    obtain ⟨b, dx, vs, rfl, hs⟩ := insD_at ok hi (hΓ (d, v) (by simp))
    exact ⟨b, dx, vs, rfl, hs, w, [d], rfl, ok, .cons (hΓ (d, V.ref b) (by simp)) .nil, go_noX ⟨r, M', hk, hp⟩⟩
  · cases hk
/-- a property -/
def eProp (c : Str) (f : On) (o : ME) : ME := fun ρ M => bindR (o ρ M) fun x M => if insD c x M then noX (f [x] M) else none
theorem d_prop {c : Str} {k : Nat} {h p : Addr} {m : Str} {f : On} {e : Expr} {mo : ME} {pos : Pos} (he : PE X e (tM g E mo)) (hc : SlX.SCls X.K (g.ct c)) (at_ : PySem.W.findIn X.K (.ref (g.ct c)) m = some (some (.ref p))) (get : PySem.W.specialIn X.K (.ref p) "__get__" = some (some (.builtin "property.__get__")))
    (tk : PySem.W.takesIn X.K (.ref p) = some true) (rc : ∃ rest, PySem.W.recIn X.K p "property" = some (.ref h :: rest)) (F : FnR X.prog X.w X.K X.mg X.base CX0 k h (SpM g f)) (hr : Room (k + 1) X.A) (hb : attributeBase e m X.env (eval e X.env) = eval e X.env := by rfl) :
    PE X (.Attribute e m pos) (tM g E (eProp c f mo)) := PE.mono (SlX.pe_propSl (E := E) he hc at_ get tk rc F hr (fun _ _ _ _ z => z) hb) fun σ H Q ⟨ρ, h⟩ => tM_imp (At.bind h) fun v H1 ⟨d, h1⟩ => by
  obtain ⟨w, e1, ok, sl, hΓ, r, M', hk, hp⟩ := h1
  simp only at hk
  split at hk
  · rename_i hi
    subst e1
    obtain ⟨b, dx, vs, rfl, hs⟩ := insD_at ok hi (hΓ (d, v) (by simp))
    exact ⟨b, dx, vs, rfl, hs, w, [d], rfl, ok, .cons (hΓ (d, V.ref b) (by simp)) .nil, go_noX ⟨r, M', hk, hp⟩⟩
  · cases hk
/-- a slot read: tab tells the slot's place by the class -/
def slotD (tab : Str → Option Nat) (x : D) (M : Mem) : Out D := match x with
  | .p (.obj c fs) => match tab c with
    | some i => match fs[i]? with
      | some q => some (.ok (.p q), M)
      | none => none
    | none => none
  | .own n => match M[n]? with
    | some (.ins c fs) => match tab c with
      | some i => match fs[i]? with
        | some (some d) => some (.ok d, M)
        | _ => none
      | none => none
    | _ => none
  | _ => none
def SlotTab (g : G) (f : Str) (tab : Str → Option Nat) : Prop := ∀ c i, tab c = some i → SlX.SCls g.K (g.ct c) ∧ ∃ p, SlX.Slot1 g.K (g.ct c) f p i
theorem d_slot {f : Str} {tab : Str → Option Nat} {e : Expr} {m : ME} {pos : Pos} (T : SlotTab g f tab) (he : PE X e (tM g E m)) (hK : X.K = g.K := by rfl) (hb : attributeBase e f X.env (eval e X.env) = eval e X.env := by rfl) : PE X (.Attribute e f pos) (tM g E (eUn (slotD tab) m)) :=
  PE.mono (SlX.pe_sl he hb) fun σ H Q ⟨ρ, h⟩ => tM_imp (At.bind h) fun v H1 ⟨d, h1⟩ => by
    obtain ⟨w, e1, ok, sl, hΓ, r, M', hk, hp⟩ := h1
    have hd := hΓ (d, v) (by simp)
    subst e1
    rw [hK]
    unfold slotD at hk
    cases d with
    | p x =>
      cases x with
      | obj c fs =>
        simp only at hk
        split at hk
        · rename_i i hi
          split at hk
          · rename_i q hq
            obtain ⟨hc, p, hs⟩ := T c i hi
            have hd' : Den g w.F w.H (.obj c fs) v := hd
            unfold Den at hd'
            obtain ⟨a, dx, vs, xs, rfl, f, n, r1, z, dl⟩ := hd'
            obtain ⟨y, e2, e3⟩ := denL_get dl hq
            refine ⟨a, g.ct c, dx, p, vs, i, y, rfl, .inr r1, hc, hs, z i y e2, ?_⟩
            exact post_ok (R := RV g Q) (a := D.p q) ok hk hp y e3
          · cases hk
        · cases hk
      | _ => cases hk
    | own n =>
      simp only at hk
      split at hk
      · rename_i c fs hm
        split at hk
        · rename_i i hi
          split at hk
          · rename_i d1 hq
            obtain ⟨hc, p, hs⟩ := T c i hi
            obtain ⟨a, dx, rfl, _, xs, h1, h2, h3, h4⟩ := own_at ok hd hm
            obtain ⟨y, e2, e3⟩ := h4 i d1 hq
            refine ⟨a, g.ct c, dx, p, xs, i, y, rfl, h1, hc, hs, e2, ?_⟩
            exact post_ok (R := RV g Q) (a := d1) ok hk hp y e3
          · cases hk
        · cases hk
      · cases hk
end
end DL

set_option maxHeartbeats 4000000
namespace DL
open PySem PySem.Spec PyProof.Rows L2
section
variable {X : Cx} {g : G} {E : XK} {σ : L2.St} {ρ : Rho} {Γ : List (D × V)} {H : Hp}
/-! ### a thing of one's own changes -/
theorem own_le {w : Wd} {n : Nat} {a dx : Addr} {m' : MO} {H' : Hp} (hio : w.io[n]? = some (a, dx)) (hs : ∀ b, b ≠ a → b ≠ dx → H' b = w.H b) (h1 : H' a ≠ none) (h2 : H' dx ≠ none) : Le w { w with M := w.M.set n m', H := H' } where
  fm := fun _ f => f
  keep := fun b o e no => by
    show H' b = some o
    rw [hs b (fun z => no ⟨(a, dx), List.mem_of_getElem? hio, .inl z⟩) (fun z => no ⟨(a, dx), List.mem_of_getElem? hio, .inr z⟩)]
    exact e
  fnew := fun _ f => .inl f
  alive := fun b h => by
    show H' b ≠ none
    by_cases e1 : b = a
    · rw [e1]; exact h1
    · by_cases e2 : b = dx
      · rw [e2]; exact h2
      · rw [hs b e1 e2]; exact h
  pre := ⟨[], by simp, by simp⟩
theorem own_ok {w : Wd} {n : Nat} {a dx : Addr} {m' : MO} {H' : Hp} (k : Ok g w) (hio : w.io[n]? = some (a, dx)) (hs : ∀ b, b ≠ a → b ≠ dx → H' b = w.H b) (h1 : H' a ≠ none) (h2 : H' dx ≠ none) (hm : MDen g { w with M := w.M.set n m', H := H' } a dx m') : Ok g { w with M := w.M.set n m', H := H' } where
  len := by simp [k.len]
  nd := k.nd
  fdom := fun b f => (own_le (m' := m') hio hs h1 h2).alive b (k.fdom b f)
  disj := k.disj
  own := fun i p o e1 e2 => by
    have e2' : (w.M.set n m')[i]? = some o := e2
    by_cases hi : i = n
    · subst hi
      rw [List.getElem?_set_self (by rw [← k.len]; exact (List.getElem?_eq_some_iff.mp hio).1)] at e2'
      have e3 : m' = o := Option.some.inj e2'
      have e4 : (a, dx) = p := Option.some.inj (hio.symm.trans e1)
      subst e3 e4
      exact hm
    · rw [List.getElem?_set_ne (Ne.symm hi)] at e2'
      have nd := k.nd i n p (a, dx) e1 hio hi
      have same1 : H' p.1 = w.H p.1 := hs _ nd.1 nd.2.1
      have same2 : H' p.2 = w.H p.2 := hs _ nd.2.2.1 nd.2.2.2
      exact mden_mono (own_le (m' := m') hio hs h1 h2) k (fun u e => same1.trans e) (fun u e => same2.trans e) (k.own i p o e1 e2')
/-- one list of one's own, at its place -/
theorem own_lst {w : Wd} {n : Nat} {ds : List D} (k : Ok g w) {v : V} (hd : DenD g w (.own n) v) (hm : w.M[n]? = some (.lst ds)) : ∃ a xs, v = .ref a ∧ w.H a = some (.lst xs) ∧ DenDs g w ds xs ∧ w.io[n]? = some (a, a) := by
  obtain ⟨a, dx, e, hio, e1, xs, h1, h2⟩ := own_at k hd hm
  subst e1
  exact ⟨dx, xs, e, h1, h2, hio⟩
theorem upd_out {H : Hp} {a : Addr} {o : HO} : ∀ b, b ≠ a → b ≠ a → upd H a o b = H b := fun b h _ => upd_ne h
theorem upd_some {H : Hp} {a : Addr} {o : HO} : upd H a o a ≠ none := by rw [upd_same]; simp
/-- the list gets other items -/
theorem own_put {w : Wd} {n : Nat} {ds ds' : List D} {xs ys : List V} {a : Addr} (k : Ok g w) (hio : w.io[n]? = some (a, a)) (h1 : w.H a = some (.lst xs)) (hy : DenDs g w ds' ys) :
    ∃ w', w'.H = upd w.H a (.lst ys) ∧ w'.M = w.M.set n (.lst ds') ∧ Le w w' ∧ Ok g w' := by
  have le : Le w { w with M := w.M.set n (.lst ds'), H := upd w.H a (.lst ys) } := own_le (m' := .lst ds') hio upd_out upd_some upd_some
  exact ⟨{ w with M := w.M.set n (.lst ds'), H := upd w.H a (.lst ys) }, rfl, rfl, le, own_ok k hio upd_out upd_some upd_some ⟨rfl, ys, upd_same, le.denDs k hy⟩⟩
theorem go_put {w : Wd} {n : Nat} {ds' : List D} {xs ys : List V} {a : Addr} {Q : VK} {d : D} {v : V} (k : Ok g w) (hio : w.io[n]? = some (a, a)) (h1 : w.H a = some (.lst xs)) (hy : DenDs g w ds' ys) (hd : DenD g w d v)
    (go : Go g E w (some (.ok d, w.M.set n (.lst ds'))) Q) : Q v (upd w.H a (.lst ys)) := by
  obtain ⟨r, M', e, po⟩ := go
  have e1 := Option.some.inj e
  have e2 : Res.ok d = r := congrArg Prod.fst e1
  have e3 : w.M.set n (.lst ds') = M' := congrArg Prod.snd e1
  subst e2 e3
  obtain ⟨w', a1, a2, a3, a4⟩ := own_put (ds := ds') k hio h1 hy
  rw [← a1]
  exact po w' a2 a3 a4 v (a3.denD k hd)

/-! ### methods of built-in types -/
abbrev Om := D → List D → Mem → Out D
def rDm (g : G) (E : XK) (f : Om) : V → List V → Hp → VK → Prop := fun x xs H Q => ∃ w d ds, w.H = H ∧ Ok g w ∧ DenD g w d x ∧ DenDs g w ds xs ∧ Go g E w (f d ds w.M) Q
def isL (d : D) (M : Mem) : Bool := match d with
  | .p (.lst _) => true
  | .own n => match M[n]? with
    | some (.lst _) => true
    | _ => false
  | _ => false
def isS (d : D) (_ : Mem) : Bool := match d with
  | .p (.str _) => true
  | _ => false
def isDi (d : D) (M : Mem) : Bool := match d with
  | .own n => match M[n]? with
    | some (.dic _ _) => true
    | _ => false
  | _ => false
/-- what tells a built-in type -/
structure TyOk (X : Cx) (g : G) (T : String) (is : D → Mem → Bool) : Prop where
  ty : ∀ w d v, Ok g w → DenD g w d v → is d w.M = true → tyV X.K T v w.H
theorem ty_list (hK : X.K = g.K) : TyOk X g "list" isL := ⟨fun w d v ok hd h => by
  rw [hK]
  cases d with
  | p x =>
    cases x with
    | lst xs =>
      have hd' : Den g w.F w.H (.lst xs) v := hd
      unfold Den at hd'
      obtain ⟨a, ys, rfl, r, q⟩ := hd'
      exact .inl ⟨rfl, ys, r.sq⟩
    | _ => cases h
  | own n =>
    unfold isL at h
    simp only at h
    split at h
    · rename_i xs hm
      obtain ⟨a, ys, rfl, h1, h2, _⟩ := own_lst ok hd hm
      exact .inl ⟨rfl, ys, SqL.of h1⟩
    · cases h⟩
theorem ty_str : TyOk X g "str" isS := ⟨fun w d v ok hd h => by
  cases d with
  | p x =>
    cases x with
    | str xs =>
      have hd' : v = V.str xs := hd
      subst hd'
      exact rfl
    | _ => cases h
  | own n => cases h⟩
theorem ty_dict : TyOk X g "dict" isDi := ⟨fun w d v ok hd h => by
  cases d with
  | p x => cases h
  | own n =>
    unfold isDi at h
    simp only at h
    split at h
    · rename_i ks vs hm
      obtain ⟨a, dx, rfl, _, hdx, ys, h1, h0, h2⟩ := own_at ok hd hm
      exact .inr (.inr (.inl ⟨rfl, .inl ⟨_, h1⟩⟩))
    · cases h⟩
def eBm (is : D → Mem → Bool) (f : Om) (o : ME) (a : MA) : ME := fun ρ M => bindR (o ρ M) fun x M => if is x M then bindR (a ρ M) fun ds M => f x ds M else none
theorem d_bm {T : String} {is : D → Mem → Bool} {f : Om} {e : Expr} {mo : ME} {a : MA} {to : TE} (ty : TyOk X g T is) (h : PE X e (tBM X.K T (rDm g E f) (tM g E mo) (tMA g E a))) : PE X e (tM g E (eBm is f mo a)) :=
  PE.mono h fun σ H Q ⟨ρ, h⟩ => tM_imp (At.bind h) fun v H1 ⟨d, h1⟩ => by
    obtain ⟨w, e1, ok, sl, hΓ, r, M', hk, hp⟩ := h1
    simp only at hk
    split at hk
    · rename_i hi
      subst e1
      refine ⟨ty.ty w d v ok (hΓ (d, v) (by simp)) hi, ?_⟩
      have h2 : At g E σ ρ ((d, v) :: []) w.H (fun M => bindR (a ρ M) fun ds M => f d ds M) (RV g Q) := ⟨w, rfl, ok, sl, hΓ, r, M', hk, hp⟩
      refine tMA_imp (At.bindA h2) fun us H2 ⟨ds, hl, h3⟩ => ?_
      obtain ⟨w2, e2, ok2, sl2, hΓ2, go⟩ := h3
      exact ⟨w2, d, ds, e2, ok2, hΓ2 (d, v) (by simp), zipDen hl fun p hp => hΓ2 p (by simp [hp]), go⟩
    · cases hk
theorem d_bm0 {T : String} {is : D → Mem → Bool} {f : Om} {e : Expr} {mo : ME} (ty : TyOk X g T is) (h : PE X e (tBM0 X.K T (rDm g E f) (tM g E mo))) : PE X e (tM g E (eBm is f mo aNil)) :=
  PE.mono h fun σ H Q ⟨ρ, h⟩ => tM_imp (At.bind h) fun v H1 ⟨d, h1⟩ => by
    obtain ⟨w, e1, ok, sl, hΓ, r, M', hk, hp⟩ := h1
    simp only at hk
    split at hk
    · rename_i hi
      subst e1
      exact ⟨ty.ty w d v ok (hΓ (d, v) (by simp)) hi, w, d, [], rfl, ok, hΓ (d, v) (by simp), .nil, r, M', hk, hp⟩
    · cases hk
def Svm (g : G) (E : XK) (f : Om) (r : V → List V → Hp → VK → Prop) : Prop := ∀ w d ds x xs Q, Ok g w → DenD g w d x → DenDs g w ds xs → Go g E w (f d ds w.M) Q → r x xs w.H Q
theorem Svm.op {id : String} {f : Om} {r : V → List V → Hp → VK → Prop} (s : Svm g E f r) (h : MtR X id r) : MtR X id (rDm g E f) :=
  fun pins sh σ H x xs v us Q I rx rxs ⟨w, d, ds, hw, ok, h1, h2, go⟩ => h pins sh σ H x xs v us Q I rx rxs (by subst hw; exact s w d ds x xs Q ok h1 h2 go)
def appD : Om := fun x ds M => match x, ds with
  | .own n, [d] => match M[n]? with
    | some (.lst xs) => if xs.length < sizeLine then some (.ok (.p .non), M.set n (.lst (xs ++ [d]))) else none
    | _ => none
  | _, _ => none
theorem mm_append : MtR X "list.append" (rDm g E appD) := Svm.op (fun w d ds x xs Q ok h1 h2 go => by
  unfold appD at go
  split at go
  · rename_i n d
    split at go
    · rename_i ys hm
      split at go
      · rename_i hz
        obtain ⟨a, zs, rfl, e1, e2, hio⟩ := own_lst ok h1 hm
        cases h2 with
        | cons r t =>
          cases t
          exact ⟨a, zs, _, rfl, rfl, e1, by rw [← e2.length]; exact hz, go_put ok hio e1 (denDs_append e2 (.cons r .nil)) (d := .p .non) rfl go⟩
      · exact (go_none go).elim
    · exact (go_none go).elim
  · exact (go_none go).elim) mt_append
theorem denDs_last {w : Wd} {ds : List D} {xs : List V} {d : D} (h : DenDs g w ds xs) (e : ds[ds.length - 1]? = some d) : ∃ x, xs[xs.length - 1]? = some x ∧ DenD g w d x := by
  rw [← h.length]
  exact paired_get h e
theorem denDs_dropLast {w : Wd} : ∀ {ds : List D} {xs : List V}, DenDs g w ds xs → DenDs g w ds.dropLast xs.dropLast
  | _, _, .nil => .nil
  | _, _, .cons r .nil => .nil
  | _, _, .cons r (.cons r' t) => .cons r (denDs_dropLast (.cons r' t))
def popD : Om := fun x ds M => match x, ds with
  | .own n, [] => match M[n]? with
    | some (.lst xs) => match xs[xs.length - 1]? with
      | some d => some (.ok d, M.set n (.lst xs.dropLast))
      | none => none
    | _ => none
  | _, _ => none
theorem mm_pop : MtR X "list.pop" (rDm g E popD) := Svm.op (fun w d ds x xs Q ok h1 h2 go => by
  unfold popD at go
  split at go
  · rename_i n
    split at go
    · rename_i ys hm
      split at go
      · rename_i d hl
        obtain ⟨a, zs, rfl, e1, e2, hio⟩ := own_lst ok h1 hm
        cases h2
        obtain ⟨y, e3, e4⟩ := denDs_last e2 hl
        exact ⟨a, zs, y, rfl, rfl, e1, e3, go_put ok hio e1 (denDs_dropLast e2) e4 go⟩
      · exact (go_none go).elim
    · exact (go_none go).elim
  · exact (go_none go).elim) mt_pop
/-! ### xs[i] = e -/
def sSub (mo mi mv : ME) : MS := fun ρ M => bindR (mv ρ M) fun v M => bindR (mo ρ M) fun o M => bindR (mi ρ M) fun i M => match o, i with
  | .own n, .p (.int k) => match M[n]? with
    | some (.lst xs) => match ixN xs.length k with
      | some j => some (.ok (.nx ρ), M.set n (.lst (xs.set j v)))
      | none => none
    | _ => none
  | _, _ => none
theorem ds_sub {o i e : Expr} {mo mi mv : ME} {pos pos' : Pos} (he : PE X e (tM g E mv)) (ho : PE X o (tM g E mo)) (hi : PE X i (tM g E mi)) (h : PG X (.Subscript o i pos') (gSub (tM g E mo) (tM g E mi) rSetL)) (hs : swapsWithSole [.Subscript o i pos'] e pos.line X.env = pure false := by rfl) (hw : swappedStores [.Subscript o i pos'] e X.env = pure none := by rfl)
    (h1 : (assignEach [.Subscript o i pos'] X.env).map (·.2) = [assign (.Subscript o i pos') X.env] := by rfl) : PS X (.Assign [.Subscript o i pos'] e pos) (tS g E (sSub mo mi mv)) := PS.mono (ps_asg he h hs hw h1) fun Dn σ H ⟨ρ, z⟩ => by
  refine tM_imp (At.bind z) fun v H1 ⟨dv, z1⟩ => ?_
  refine tM_imp (At.bind z1) fun x H2 ⟨dx, z2⟩ => ?_
  refine tM_imp (At.bind z2) fun y H3 ⟨dy, z3⟩ => ?_
  obtain ⟨w, e1, ok, sl, hΓ, r, M', hk, hp⟩ := z3
  subst e1
  have hx : DenD g w dx x := hΓ (dx, x) (by simp)
  have hy : DenD g w dy y := hΓ (dy, y) (by simp)
  have hv : DenD g w dv v := hΓ (dv, v) (by simp)
  cases dx with
  | p q => cases dy <;> cases hk
  | own n =>
    cases dy with
    | own j => cases hk
    | p q =>
      cases q with
      | int k =>
        simp only at hk
        split at hk
        · rename_i xs hm
          split at hk
          · rename_i j hj
            obtain ⟨a, zs, rfl, e1, e2, hio⟩ := own_lst ok hx hm
            have hy' : y = V.int k := hy
            subst hy'
            refine ⟨a, zs, k, j, rfl, rfl, e1, by rw [← e2.length]; exact hj, ?_⟩
            obtain ⟨w', a1, a2, a3, a4⟩ := own_put (ds := xs.set j dv) ok hio e1 (paired_set (R := DenD g w) hv j e2)
            have e3 := Option.some.inj hk
            have e4 : Res.ok (Fl.nx ρ) = r := congrArg Prod.fst e3
            have e5 : w.M.set n (.lst (xs.set j dv)) = M' := congrArg Prod.snd e3
            subst e4 e5
            have := hp w' a2 a3 a4 σ (a3.slots ok sl)
            rw [a1] at this
            exact this
          · cases hk
        · cases hk
      | _ => cases hk
/-! ### self.f = e -/
def putD (i : Nat) (y : D) (fs : List (Option D)) : List (Option D) := (fs ++ List.replicate (i + 1 - fs.length) none).set i (some y)
def sSlot (tab : Str → Option Nat) (mo mv : ME) : MS := fun ρ M => bindR (mv ρ M) fun y M => bindR (mo ρ M) fun x M => match x with
  | .own n => match M[n]? with
    | some (.ins c fs) => match tab c with
      | some i => some (.ok (.nx ρ), M.set n (.ins c (putD i y fs)))
      | none => none
    | _ => none
  | _ => none
theorem putD_get {i j : Nat} {y d : D} {fs : List (Option D)} (h : (putD i y fs)[j]? = some (some d)) : (j = i ∧ d = y) ∨ (j ≠ i ∧ fs[j]? = some (some d)) := by
  unfold putD at h
  by_cases e : j = i
  · subst e
    rw [List.getElem?_set_self (by simp; omega)] at h
    exact .inl ⟨rfl, (Option.some.inj (Option.some.inj h)).symm⟩
  · right
    rw [List.getElem?_set_ne (Ne.symm e)] at h
    refine ⟨e, ?_⟩
    by_cases hl : j < fs.length
    · rw [List.getElem?_append_left hl] at h
      exact h
    · rw [List.getElem?_append_right (by omega), List.getElem?_replicate] at h
      split at h
      · cases h
      · cases h
theorem ds_slot {f : Str} {tab : Str → Option Nat} {o value : Expr} {mo mv : ME} {pos pos' : Pos} (T : SlotTab g f tab) (ha : PE X o (tM g E mo)) (hv : PE X value (tM g E mv)) (hK : X.K = g.K := by rfl) (hs : swapsWith value (some (.Attribute o f pos')) pos.line X.env = pure false := by rfl) :
    PS X (.Assign [.Attribute o f pos'] value pos) (tS g E (sSlot tab mo mv)) := PS.mono (SlX.ps_sl ha hv hs) fun Dn σ H ⟨ρ, z⟩ => by
  refine tM_imp (At.bind z) fun y H1 ⟨dy, z1⟩ => ?_
  refine tM_imp (At.bind z1) fun x H2 ⟨d, z2⟩ => ?_
  obtain ⟨w, e1, ok, sl, hΓ, r, M', hk, hp⟩ := z2
  subst e1
  have hx : DenD g w d x := hΓ (d, x) (by simp)
  have hy : DenD g w dy y := hΓ (dy, y) (by simp)
  rw [hK]
  cases d with
  | p q => cases hk
  | own n =>
    simp only at hk
    split at hk
    · rename_i c fs hm
      split at hk
      · rename_i i hi
        obtain ⟨hc, p, hs1⟩ := T c i hi
        obtain ⟨a, dx, rfl, hio, xs, h1, h2, h3, h4⟩ := own_at ok hx hm
        refine ⟨a, g.ct c, dx, p, xs, i, rfl, h1, hc, hs1, ?_⟩
        have hsame : ∀ b, b ≠ a → b ≠ dx → SlX.slH w.H a (g.ct c) dx (SlX.putS i y xs) b = w.H b := fun b n1 n2 => SlX.slH_ne n1 n2
        have hslt := SlX.slH_slt (H := w.H) (a := a) (C := g.ct c) (vs := SlX.putS i y xs) h2
        have q1 : SlX.slH w.H a (g.ct c) dx (SlX.putS i y xs) a ≠ none := by
          unfold SlX.slH
          rw [upd_same]; simp
        have q2 : SlX.slH w.H a (g.ct c) dx (SlX.putS i y xs) dx ≠ none := by
          unfold SlX.slH
          rw [upd_ne h2, upd_same]; simp
        have le : Le w { w with M := w.M.set n (.ins c (putD i dy fs)), H := SlX.slH w.H a (g.ct c) dx (SlX.putS i y xs) } := own_le hio hsame q1 q2
        have ok' : Ok g { w with M := w.M.set n (.ins c (putD i dy fs)), H := SlX.slH w.H a (g.ct c) dx (SlX.putS i y xs) } := own_ok ok hio hsame q1 q2 ⟨SlX.putS i y xs, hslt, h2, q2, fun j d1 e => by
          rcases putD_get e with ⟨rfl, rfl⟩ | ⟨hj, e2⟩
          · exact ⟨y, SlX.putS_get _ _ _, le.denD ok hy⟩
          · obtain ⟨v1, e3, e4⟩ := h4 j d1 e2
            exact ⟨v1, (SlX.putS_ne hj).mpr e3, le.denD ok e4⟩⟩
        have e3 := Option.some.inj hk
        have e4 : Res.ok (Fl.nx ρ) = r := congrArg Prod.fst e3
        have e5 : w.M.set n (.ins c (putD i dy fs)) = M' := congrArg Prod.snd e3
        subst e4 e5
        exact hp _ rfl le ok' σ (le.slots ok sl)
      · cases hk
    · cases hk
/-! ### C(..): a constructor by its data -/
/-- the class c's constructor does F -/
def InitP (c : Str) (m : On) (F : List P → Option P) : Prop := ∀ ps q, F ps = some q → ∃ fs, q = .obj c fs ∧ fs ≠ [] ∧ ∀ M : Mem, ∃ extra, m (.own M.length :: ps.map .p) (M ++ [.ins c []]) = some (.ok (.p .non), M ++ .ins c (fs.map fun x => some (.p x)) :: extra)
def Wd.mk2 (w : Wd) (a dx : Addr) (c : Str) (C : Addr) : Wd := ⟨w.F, w.io ++ [(a, dx)], w.M ++ [.ins c []], upd (upd w.H dx (.own a)) a (.ins C dx [])⟩
theorem mk2_le {w : Wd} {a dx : Addr} {c : Str} {C : Addr} (ha : w.H a = none) (hx : w.H dx = none) : Le w (w.mk2 a dx c C) where
  fm := fun _ f => f
  keep := fun b o e _ => by
    show upd (upd w.H dx (.own a)) a (.ins C dx []) b = some o
    rw [upd_ne (ne_of_none e ha), upd_ne (ne_of_none e hx)]; exact e
  fnew := fun _ f => .inl f
  alive := fun b h => by
    show upd (upd w.H dx (.own a)) a (.ins C dx []) b ≠ none
    by_cases e1 : b = a
    · rw [e1, upd_same]; simp
    · rw [upd_ne e1]
      by_cases e2 : b = dx
      · rw [e2, upd_same]; simp
      · rw [upd_ne e2]; exact h
  pre := ⟨[(a, dx)], rfl, by simp [ha, hx]⟩
theorem mk2_ok {w : Wd} {a dx : Addr} {c : Str} (k : Ok g w) (ha : w.H a = none) (hx : w.H dx = none) (hne : dx ≠ a) : Ok g (w.mk2 a dx c (g.ct c)) where
  len := by simp [Wd.mk2, k.len]
  nd := fun i j q r hi hj hij => by
    have hq : ∀ (i : Nat) q, w.io[i]? = some q → w.H q.1 ≠ none ∧ w.H q.2 ≠ none := fun i q h =>
      ⟨k.ownH ⟨q, List.mem_of_getElem? h, .inl rfl⟩, k.ownH ⟨q, List.mem_of_getElem? h, .inr rfl⟩⟩
    have cs : ∀ (i : Nat) q, (w.io ++ [(a, dx)])[i]? = some q → w.io[i]? = some q ∨ (i = w.io.length ∧ q = (a, dx)) := fun i q h2 => by
      by_cases hl : i < w.io.length
      · left
        rw [List.getElem?_append_left hl] at h2
        exact h2
      · rw [List.getElem?_append_right (by omega)] at h2
        have hz := (List.getElem?_eq_some_iff.mp h2).1
        simp at hz
        have e : i = w.io.length := by omega
        subst e
        right
        simp at h2
        exact ⟨rfl, h2.symm⟩
    rcases cs i q hi with h1 | ⟨e1, rfl⟩ <;> rcases cs j r hj with h2 | ⟨e2, rfl⟩
    · exact k.nd i j q r h1 h2 hij
    · have z := hq i q h1
      exact ⟨fun e => z.1 (e ▸ ha), fun e => z.1 (e ▸ hx), fun e => z.2 (e ▸ ha), fun e => z.2 (e ▸ hx)⟩
    · have z := hq j r h2
      exact ⟨fun e => z.1 (by rw [← e]; exact ha), fun e => z.2 (by rw [← e]; exact ha), fun e => z.1 (by rw [← e]; exact hx), fun e => z.2 (by rw [← e]; exact hx)⟩
    · omega
  fdom := fun b f => (mk2_le (c := c) (C := g.ct c) ha hx).alive b (k.fdom b f)
  disj := fun b h f => by
    rcases (mk2_le (c := c) (C := g.ct c) ha hx).owns h with z | z
    · exact k.disj b z f
    · exact k.fdom b f z
  own := fun i p o h1 h2 => by
    have up : ∀ b u, w.H b = some u → (w.mk2 a dx c (g.ct c)).H b = some u := fun b u e => by
      show upd (upd w.H dx (.own a)) a (.ins (g.ct c) dx []) b = some u
      rw [upd_ne (ne_of_none e ha), upd_ne (ne_of_none e hx)]; exact e
    have h1' : (w.io ++ [(a, dx)])[i]? = some p := h1
    have h2' : (w.M ++ [MO.ins c []])[i]? = some o := h2
    by_cases hl : i < w.io.length
    · rw [List.getElem?_append_left hl] at h1'
      rw [List.getElem?_append_left (by rw [← k.len]; exact hl)] at h2'
      exact mden_mono (mk2_le ha hx) k (up _) (up _) (k.own i p o h1' h2')
    · rw [List.getElem?_append_right (by omega)] at h1'
      rw [List.getElem?_append_right (by rw [← k.len]; omega)] at h2'
      have hz := (List.getElem?_eq_some_iff.mp h1').1
      simp at hz
      have e : i = w.io.length := by omega
      subst e
      simp at h1'
      rw [k.len] at h2'
      simp at h2'
      rw [← h1', ← h2']
      refine ⟨[], .inl ⟨upd_same, rfl⟩, hne, ?_, by simp⟩
      show upd (upd w.H dx (.own a)) a (.ins (g.ct c) dx []) dx ≠ none
      rw [upd_ne hne, upd_same]; simp
theorem d_make {c : Str} {k : Nat} {f : Addr} {m : On} {F : List P → Option P} {x : Str} {p pos : Pos} {e : Expr} {es : List Expr} {a : MA} (MK : Mk X.K (g.ct c) f) (R : FnR X.prog X.w X.K X.mg X.base CX0 k f (SpM g m)) (hF : InitP c m F) (hr : Room (k + 1) X.A) (hg : Gl X x) (hm : X.mg x = some (.ref (g.ct c)))
    (ha : PA X (e :: es) (tMA g E a)) (hdb : (x == ("__debug__" : Str)) = false := by decide) (he : starEach (e :: es) X.env = (false, eval e X.env) :: starEach es X.env := by rfl) (hpl : (backTo pos (starEach es X.env)).any (·.1) = false := by rfl) :
    PE X (.Call (.Name x p) (e :: es) [] pos) (tM g E (eCallB (liftn F) a)) := PE.mono (StX.pe_makeR (E := E) MK R hr hg hm passE ha hdb he hpl) fun σ H Q ⟨ρ, h⟩ => tMA_imp (At.bindA h) fun vs H1 ⟨ds, hl, h1⟩ => by
  obtain ⟨w, e1, ok, hd, r, M', hk, hp⟩ := at_zip hl h1
  subst e1
  obtain ⟨ps, q, rfl, hf, rfl, rfl⟩ := liftn_eq hk
  obtain ⟨fs, rfl, hne, hM⟩ := hF ps q hf
  intro y dx hy hx hyx
  obtain ⟨extra, hrun⟩ := hM w.M
  have le1 := mk2_le (c := c) (C := g.ct c) hy hx
  have ok1 := mk2_ok (c := c) ok hy hx hyx
  refine ⟨w.mk2 y dx c (g.ct c), .own w.M.length :: ps.map .p, rfl, ok1, .cons ⟨y, dx, rfl, ?_⟩ (le1.denDs ok hd), _, _, hrun, fun w2 em l2 k2 v hv => ?_⟩
  · show (w.io ++ [(y, dx)])[w.M.length]? = some (y, dx)
    rw [← ok.len]
    simp
  · have hv' : v = V.non := hv
    refine ⟨hv', ?_⟩
    have l : Le w w2 := le1.trans l2
    have hself : DenD g w2 (.own w.M.length) (.ref y) := l2.denD ok1 ⟨y, dx, rfl, by
      show (w.io ++ [(y, dx)])[w.M.length]? = some (y, dx)
      rw [← ok.len]
      simp⟩
    exact hp (cutW w w2 w.M) rfl (cut_le ok l) (cut_ok ok l k2 em rfl fun i o h => .inl h) _ (cut_frz ok l k2 em rfl (.inr (.inr ⟨0, c, fs, rfl, rfl, hne, rfl⟩)) hself)
end
end DL

set_option maxHeartbeats 4000000
namespace DL
open PySem PySem.Spec PyProof.Rows L2
/-! ### data as the library has them -/
mutual
def toPy : P → PyData
  | .non => .none
  | .bl b => .bool b
  | .int i => .int i
  | .str x => .str x
  | .tup xs => .tuple (toPyL xs)
  | .lst xs => .list (toPyL xs)
  | .obj _ _ => .dict []
  | .dic _ _ => .dict []
  | .ty _ => .dict []
  | .cls _ => .dict []
def toPyL : List P → List PyData
  | [] => []
  | x :: xs => toPy x :: toPyL xs
end
theorem toPyL_map (xs : List P) : toPyL xs = xs.map toPy := by
  induction xs with
  | nil => rfl
  | cons x r ih => simp [toPyL, ih]
def shP (p : P) : Bool := SeqAt.shaped (toPy p)
section
variable {X : Cx} {g : G} {E : XK}
mutual
theorem den_dp {F : Addr → Prop} {H : Hp} : ∀ (p : P) (v : V), (toPy p).canLay0 = true → Den g F H p v → Dp g.K H v (toPy p)
  | .non, v, _, h => by unfold Den at h; subst h; exact .non
  | .bl b, v, _, h => by unfold Den at h; subst h; exact .bl b
  | .int i, v, _, h => by unfold Den at h; subst h; exact .int i
  | .str x, v, _, h => by unfold Den at h; subst h; exact .str x
  | .tup xs, v, c, h => by
    unfold Den at h
    obtain ⟨a, ys, rfl, r, q⟩ := h
    exact .tup r.sq (denL_dp xs ys (by unfold toPy PyData.canLay0 at c; exact c) q)
  | .lst xs, v, c, h => by
    unfold Den at h
    obtain ⟨a, ys, rfl, r, q⟩ := h
    exact .lst r.sq (denL_dp xs ys (by unfold toPy PyData.canLay0 at c; exact c) q)
  | .obj _ _, v, c, h => by simp [toPy, PyData.canLay0] at c
  | .dic _ _, v, c, h => by simp [toPy, PyData.canLay0] at c
  | .ty _, v, c, h => by simp [toPy, PyData.canLay0] at c
  | .cls _, v, c, h => by simp [toPy, PyData.canLay0] at c
theorem denL_dp {F : Addr → Prop} {H : Hp} : ∀ (ps : List P) (vs : List V), PyData.canLayAll0 (toPyL ps) = true → DenL g F H ps vs → DpAll g.K H vs (toPyL ps)
  | [], vs, _, h => by unfold DenL at h; subst h; exact .nil
  | p :: ps, vs, c, h => by
    unfold DenL at h
    obtain ⟨x, r, rfl, h1, h2⟩ := h
    unfold toPyL PyData.canLayAll0 at c
    rw [Bool.and_eq_true] at c
    exact .cons (den_dp p x c.1 h1) (denL_dp ps r c.2 h2)
end
theorem sh_dp {F : Addr → Prop} {H : Hp} {p : P} {v : V} (s : shP p = true) (h : Den g F H p v) : Dp g.K H v (toPy p) := den_dp p v (SeqAt.canLay_of_shaped s) h
/-! ### ==, !=, in, not in -/
def eqP (a b : P) : Option P := if shP a && shP b then some (.bl (PyData.eqv (toPy a) (toPy b))) else none
def neP (a b : P) : Option P := if shP a && shP b then some (.bl (!PyData.eqv (toPy a) (toPy b))) else none
theorem and_both {a b : Bool} (h : (a && b) = true) : a = true ∧ b = true := Bool.and_eq_true_iff.mp h
theorem oo_eq (hu : X.A.units + 64 < cLine) (hK : X.K = g.K := by rfl) : OpR X (compareOp .Eq) (rD2 g E (lift2 eqP)) := Sv2.op (sv2_lift fun a b c hf w x y Q ok h1 h2 t => by
  unfold eqP at hf
  split at hf
  · rename_i hs
    obtain ⟨s1, s2⟩ := and_both hs
    have e := Option.some.inj hf
    subst e
    rw [hK]
    exact ⟨toPy a, toPy b, sh_dp s1 h1, sh_dp s2 h2, s1, s2, t.here ok rfl⟩
  · cases hf) (op_eqD hu)
theorem oo_ne (hu : X.A.units + 64 < cLine) (hK : X.K = g.K := by rfl) : OpR X (compareOp .NotEq) (rD2 g E (lift2 neP)) := Sv2.op (sv2_lift fun a b c hf w x y Q ok h1 h2 t => by
  unfold neP at hf
  split at hf
  · rename_i hs
    obtain ⟨s1, s2⟩ := and_both hs
    have e := Option.some.inj hf
    subst e
    rw [hK]
    exact ⟨toPy a, toPy b, sh_dp s1 h1, sh_dp s2 h2, s1, s2, t.here ok rfl⟩
  · cases hf) (op_neD hu)
def inL (a : P) (xs : List P) : Bool := xs.any fun z => PyData.eqv (toPy z) (toPy a)
def inP (a b : P) : Option P := match b with
  | .lst xs => if shP a && shP (.lst xs) then some (.bl (inL a xs)) else none
  | .tup xs => if shP a && shP (.tup xs) then some (.bl (inL a xs)) else none
  | _ => none
def ninP (a b : P) : Option P := match b with
  | .lst xs => if shP a && shP (.lst xs) then some (.bl (!inL a xs)) else none
  | .tup xs => if shP a && shP (.tup xs) then some (.bl (!inL a xs)) else none
  | _ => none
def rInT (K : PySem.W.Frag) : R2 := fun x y H Q => ∃ d ds, Dp K H x d ∧ Dp K H y (.tuple ds) ∧ SeqAt.shaped d = true ∧ SeqAt.shaped (.tuple ds) = true ∧ Q (.bl (ds.any fun z => PyData.eqv z d)) H
def rNotInT (K : PySem.W.Frag) : R2 := fun x y H Q => ∃ d ds, Dp K H x d ∧ Dp K H y (.tuple ds) ∧ SeqAt.shaped d = true ∧ SeqAt.shaped (.tuple ds) = true ∧ Q (.bl (!ds.any fun z => PyData.eqv z d)) H
theorem op_inT (hu : X.A.units + 65 < cLine) : OpR X (compareOp .In) (rInT X.K) := by
  intro pins s σ H x y v u Q I rx ry h
  obtain ⟨d, ds, hd, he, sd, se, q⟩ := h
  obtain ⟨as, r1⟩ := Dp.reads I d x v hd rx
  obtain ⟨bs, r2⟩ := Dp.reads I (.tuple ds) y u he ry
  exact SeqAt.in_tuple_reads r2 r1 (SeqAt.canLay_of_shaped se) (SeqAt.canLay_of_shaped sd) (room_in_shaped sd hu) ⟨.bl _, H, I, rfl, q⟩
theorem op_notInT (hu : X.A.units + 65 < cLine) : OpR X (compareOp .NotIn) (rNotInT X.K) := by
  intro pins s σ H x y v u Q I rx ry h
  obtain ⟨d, ds, hd, he, sd, se, q⟩ := h
  obtain ⟨as, r1⟩ := Dp.reads I d x v hd rx
  obtain ⟨bs, r2⟩ := Dp.reads I (.tuple ds) y u he ry
  exact SeqAt.notIn_tuple_reads r2 r1 (SeqAt.canLay_of_shaped se) (SeqAt.canLay_of_shaped sd) (room_in_shaped sd hu) ⟨.bl _, H, I, rfl, q⟩
theorem inL_eq (a : P) (xs : List P) : (toPyL xs).any (fun z => PyData.eqv z (toPy a)) = inL a xs := by
  unfold inL
  rw [toPyL_map, List.any_map]
  rfl
theorem oo_in (hu : X.A.units + 65 < cLine) (hK : X.K = g.K := by rfl) : OpR X (compareOp .In) (rD2 g E (lift2 inP)) := Sv2.op (sv2_lift fun a b c hf w x y Q ok h1 h2 t => by
  unfold inP at hf
  split at hf
  · rename_i xs
    split at hf
    · rename_i hs
      obtain ⟨s1, s2⟩ := and_both hs
      have e := Option.some.inj hf
      subst e
      rw [hK]
      exact .inl ⟨toPy a, toPyL xs, sh_dp s1 h1, sh_dp (p := .lst xs) s2 h2, s1, s2, by rw [inL_eq]; exact t.here ok rfl⟩
    · cases hf
  · rename_i xs
    split at hf
    · rename_i hs
      obtain ⟨s1, s2⟩ := and_both hs
      have e := Option.some.inj hf
      subst e
      rw [hK]
      exact .inr ⟨toPy a, toPyL xs, sh_dp s1 h1, sh_dp (p := .tup xs) s2 h2, s1, s2, by rw [inL_eq]; exact t.here ok rfl⟩
    · cases hf
  · cases hf) (OpR.or (op_inD hu) (op_inT hu))
theorem oo_nin (hu : X.A.units + 65 < cLine) (hK : X.K = g.K := by rfl) : OpR X (compareOp .NotIn) (rD2 g E (lift2 ninP)) := Sv2.op (sv2_lift fun a b c hf w x y Q ok h1 h2 t => by
  unfold ninP at hf
  split at hf
  · rename_i xs
    split at hf
    · rename_i hs
      obtain ⟨s1, s2⟩ := and_both hs
      have e := Option.some.inj hf
      subst e
      rw [hK]
      exact .inl ⟨toPy a, toPyL xs, sh_dp s1 h1, sh_dp (p := .lst xs) s2 h2, s1, s2, by rw [inL_eq]; exact t.here ok rfl⟩
    · cases hf
  · rename_i xs
    split at hf
    · rename_i hs
      obtain ⟨s1, s2⟩ := and_both hs
      have e := Option.some.inj hf
      subst e
      rw [hK]
      exact .inr ⟨toPy a, toPyL xs, sh_dp s1 h1, sh_dp (p := .tup xs) s2 h2, s1, s2, by rw [inL_eq]; exact t.here ok rfl⟩
    · cases hf
  · cases hf) (OpR.or (op_notInD hu) (op_notInT hu))
/-! ### a list of one's own as a whole: it is looked at -/
def seeD (d : D) (M : Mem) : Option P := match d with
  | .p x => some x
  | .own n => match M[n]? with
    | some (.lst xs) => (allP xs).map .lst
    | _ => none
theorem denL_frz {w : Wd} {F' : Addr → Prop} {ps : List P} {xs : List V} (h : DenL g w.F w.H ps xs) (hf : ∀ a, w.F a → F' a) : DenL g F' w.H ps xs := denL_mono (.same fun a f => ⟨hf a f, fun o e => e⟩) _ _ h
theorem see_den {w : Wd} (ok : Ok g w) {d : D} {v : V} {p : P} (h : DenD g w d v) (e : seeD d w.M = some p) : ∃ F' : Addr → Prop, Den g F' w.H p v := by
  cases d with
  | p x =>
    have e1 : x = p := Option.some.inj e
    subst e1
    exact ⟨w.F, h⟩
  | own n =>
    unfold seeD at e
    simp only at e
    split at e
    · rename_i xs hm
      cases hp : allP xs with
      | none => rw [hp] at e; cases e
      | some ps =>
        rw [hp] at e
        have e1 : P.lst ps = p := Option.some.inj e
        subst e1
        obtain ⟨a, ys, rfl, h1, h2, _⟩ := own_lst ok h hm
        refine ⟨fun b => w.F b ∨ b = a, ?_⟩
        unfold Den
        exact ⟨a, ys, rfl, .inl ⟨.inr rfl, h1⟩, denL_frz (denL_of hp h2) fun b f => .inl f⟩
    · cases e
/-- an operation that only looks: its answer is a plain value -/
def look2 (f : P → P → Option P) : O2 := fun d e M => match seeD d M, seeD e M with
  | some a, some b => match f a b with
    | some c => some (.ok (.p c), M)
    | none => none
  | _, _ => none
theorem sv2_look {f : P → P → Option P} {r : R2} (h : ∀ a b c, f a b = some c → ∀ w (Fa Fb : Addr → Prop) x y Q, Ok g w → Den g Fa w.H a x → Den g Fb w.H b y → Then g w c Q → r x y w.H Q) : Sv2 g E (look2 f) r := by
  intro w d e x y Q k h1 h2 go
  unfold look2 at go
  split at go
  · rename_i a b ha hb
    obtain ⟨Fa, a1⟩ := see_den k h1 ha
    obtain ⟨Fb, b1⟩ := see_den k h2 hb
    cases hf : f a b with
    | none => rw [hf] at go; exact (go_none go).elim
    | some c =>
      rw [hf] at go
      exact h a b c hf w Fa Fb x y Q k a1 b1 (then_of go)
  · exact (go_none go).elim
theorem oo_eqL (hu : X.A.units + 64 < cLine) (hK : X.K = g.K := by rfl) : OpR X (compareOp .Eq) (rD2 g E (look2 eqP)) := Sv2.op (sv2_look fun a b c hf w Fa Fb x y Q ok h1 h2 t => by
  unfold eqP at hf
  split at hf
  · rename_i hs
    obtain ⟨s1, s2⟩ := and_both hs
    have e := Option.some.inj hf
    subst e
    rw [hK]
    exact ⟨toPy a, toPy b, sh_dp s1 h1, sh_dp s2 h2, s1, s2, t.here ok rfl⟩
  · cases hf) (op_eqD hu)
theorem oo_neL (hu : X.A.units + 64 < cLine) (hK : X.K = g.K := by rfl) : OpR X (compareOp .NotEq) (rD2 g E (look2 neP)) := Sv2.op (sv2_look fun a b c hf w Fa Fb x y Q ok h1 h2 t => by
  unfold neP at hf
  split at hf
  · rename_i hs
    obtain ⟨s1, s2⟩ := and_both hs
    have e := Option.some.inj hf
    subst e
    rw [hK]
    exact ⟨toPy a, toPy b, sh_dp s1 h1, sh_dp s2 h2, s1, s2, t.here ok rfl⟩
  · cases hf) (op_neD hu)
theorem oo_inL (hu : X.A.units + 65 < cLine) (hK : X.K = g.K := by rfl) : OpR X (compareOp .In) (rD2 g E (look2 inP)) := Sv2.op (sv2_look fun a b c hf w Fa Fb x y Q ok h1 h2 t => by
  unfold inP at hf
  split at hf
  · rename_i xs
    split at hf
    · rename_i hs
      obtain ⟨s1, s2⟩ := and_both hs
      have e := Option.some.inj hf
      subst e
      rw [hK]
      exact .inl ⟨toPy a, toPyL xs, sh_dp s1 h1, sh_dp (p := .lst xs) s2 h2, s1, s2, by rw [inL_eq]; exact t.here ok rfl⟩
    · cases hf
  · rename_i xs
    split at hf
    · rename_i hs
      obtain ⟨s1, s2⟩ := and_both hs
      have e := Option.some.inj hf
      subst e
      rw [hK]
      exact .inr ⟨toPy a, toPyL xs, sh_dp s1 h1, sh_dp (p := .tup xs) s2 h2, s1, s2, by rw [inL_eq]; exact t.here ok rfl⟩
    · cases hf
  · cases hf) (OpR.or (op_inD hu) (op_inT hu))
theorem oo_ninL (hu : X.A.units + 65 < cLine) (hK : X.K = g.K := by rfl) : OpR X (compareOp .NotIn) (rD2 g E (look2 ninP)) := Sv2.op (sv2_look fun a b c hf w Fa Fb x y Q ok h1 h2 t => by
  unfold ninP at hf
  split at hf
  · rename_i xs
    split at hf
    · rename_i hs
      obtain ⟨s1, s2⟩ := and_both hs
      have e := Option.some.inj hf
      subst e
      rw [hK]
      exact .inl ⟨toPy a, toPyL xs, sh_dp s1 h1, sh_dp (p := .lst xs) s2 h2, s1, s2, by rw [inL_eq]; exact t.here ok rfl⟩
    · cases hf
  · rename_i xs
    split at hf
    · rename_i hs
      obtain ⟨s1, s2⟩ := and_both hs
      have e := Option.some.inj hf
      subst e
      rw [hK]
      exact .inr ⟨toPy a, toPyL xs, sh_dp s1 h1, sh_dp (p := .tup xs) s2 h2, s1, s2, by rw [inL_eq]; exact t.here ok rfl⟩
    · cases hf
  · cases hf) (OpR.or (op_notInD hu) (op_notInT hu))
/-! ### whole numbers -/
def intP2 (f : Int → Int → Option P) (a b : P) : Option P := match a, b with
  | .int i, .int j => f i j
  | _, _ => none
theorem sv_int2 {f : Int → Int → Option P} {r : R2} (h : ∀ i j c, f i j = some c → ∀ w Q, Ok g w → Then g w c Q → r (.int i) (.int j) w.H Q) : Sv2 g E (lift2 (intP2 f)) r := sv2_lift fun a b c hf w x y Q ok h1 h2 t => by
  unfold intP2 at hf
  split at hf
  · rename_i i j
    have e1 : x = V.int i := h1
    have e2 : y = V.int j := h2
    subst e1 e2
    exact h i j c hf w Q ok t
  · cases hf
abbrev ltI := intP2 fun i j => some (.bl (decide (i < j)))
abbrev leI := intP2 fun i j => some (.bl (decide (i ≤ j)))
abbrev gtI := intP2 fun i j => some (.bl (decide (j < i)))
abbrev geI := intP2 fun i j => some (.bl (decide (j ≤ i)))
theorem oo_lt : OpR X (compareOp .Lt) (rD2 g E (lift2 ltI)) := Sv2.op (sv_int2 fun i j c hf w Q ok t => by
  cases hf; exact ⟨i, j, rfl, rfl, t.here ok rfl⟩) op_lt
theorem oo_le : OpR X (compareOp .LtE) (rD2 g E (lift2 leI)) := Sv2.op (sv_int2 fun i j c hf w Q ok t => by
  cases hf; exact ⟨i, j, rfl, rfl, t.here ok rfl⟩) op_le
theorem oo_gt : OpR X (compareOp .Gt) (rD2 g E (lift2 gtI)) := Sv2.op (sv_int2 fun i j c hf w Q ok t => by
  cases hf; exact ⟨i, j, rfl, rfl, t.here ok rfl⟩) op_gt
theorem oo_ge : OpR X (compareOp .GtE) (rD2 g E (lift2 geI)) := Sv2.op (sv_int2 fun i j c hf w Q ok t => by
  cases hf; exact ⟨i, j, rfl, rfl, t.here ok rfl⟩) op_ge
abbrev subI := intP2 fun i j => some (.int (i - j))
theorem oo_sub : OpR X (binaryOp .Sub) (rD2 g E (lift2 subI)) := Sv2.op (sv_int2 fun i j c hf w Q ok t => by
  cases hf; exact ⟨i, j, rfl, rfl, t.here ok rfl⟩) op_sub
abbrev modI := intP2 fun i j => if 0 < j then some (.int (i % j)) else none
theorem oo_mod : OpR X (binaryOp .Mod) (rD2 g E (lift2 modI)) := Sv2.op (sv_int2 fun i j c hf w Q ok t => by
  split at hf
  · rename_i hj
    cases hf; exact ⟨i, j, rfl, rfl, hj, t.here ok rfl⟩
  · cases hf) op_mod
abbrev divI := intP2 fun i j => if 0 < j ∧ j.natAbs.log2 < 9000 then some (.int (i / j)) else none
theorem oo_div : OpR X (binaryOp .FloorDiv) (rD2 g E (lift2 divI)) := Sv2.op (sv_int2 fun i j c hf w Q ok t => by
  split at hf
  · rename_i hj
    cases hf; exact ⟨i, j, rfl, rfl, hj, t.here ok rfl⟩
  · cases hf) op_fdivW
abbrev powI := intP2 fun i j => if 0 ≤ j ∧ j ≤ 1000000 ∧ i.natAbs < 2 ^ 64 then some (.int (i ^ j.toNat)) else none
theorem oo_pow : OpR X (binaryOp .Pow) (rD2 g E (lift2 powI)) := Sv2.op (sv_int2 fun i j c hf w Q ok t => by
  split at hf
  · rename_i hj
    cases hf; exact ⟨i, j, rfl, rfl, hj, t.here ok rfl⟩
  · cases hf) op_pow
def negP : P → Option P
  | .int i => some (.int (-i))
  | _ => none
theorem oo_neg : UnR X (unaryOp .USub) (rD1 g E (lift1 negP)) := Sv1.op (sv1_lift fun a c hf w x Q ok h1 t => by
  unfold negP at hf
  split at hf
  · rename_i i
    have e1 : x = V.int i := h1
    subst e1
    cases hf
    exact ⟨i, rfl, t.here ok rfl⟩
  · cases hf) un_neg
/-! ### is None -/
def isNone : D → Bool
  | .p .non => true
  | _ => false
theorem isNone_den {w : Wd} {d : D} {v : V} (h : DenD g w d v) : decide (v = V.non) = isNone d := by
  cases d with
  | own n =>
    obtain ⟨a, dx, rfl, _⟩ := h
    rfl
  | p x =>
    have h' : Den g w.F w.H x v := h
    cases x with
    | non => unfold Den at h'; subst h'; rfl
    | bl _ => unfold Den at h'; subst h'; rfl
    | int _ => unfold Den at h'; subst h'; rfl
    | str _ => unfold Den at h'; subst h'; rfl
    | tup _ => unfold Den at h'; obtain ⟨a, _, rfl, _⟩ := h'; rfl
    | lst _ => unfold Den at h'; obtain ⟨a, _, rfl, _⟩ := h'; rfl
    | obj _ _ => unfold Den at h'; obtain ⟨a, _, _, _, rfl, _⟩ := h'; rfl
    | dic _ _ => unfold Den at h'; obtain ⟨a, _, rfl, _⟩ := h'; rfl
    | ty _ => unfold Den at h'; subst h'; rfl
    | cls _ => unfold Den at h'; subst h'; rfl
def isND : O2 := fun d e M => if isNone e then some (.ok (.p (.bl (isNone d))), M) else none
def notND : O2 := fun d e M => if isNone e then some (.ok (.p (.bl (!isNone d))), M) else none
theorem isNone_eq {w : Wd} {d : D} {v : V} (h : DenD g w d v) (e : isNone d = true) : v = V.non := by
  have := isNone_den h
  rw [e] at this
  exact of_decide_eq_true this
theorem oo_is : OpR X (compareOp .Is) (rD2 g E isND) := Sv2.op (fun w d e x y Q ok h1 h2 go => by
  unfold isND at go
  split at go
  · rename_i hn
    refine ⟨isNone_eq h2 hn, ?_⟩
    rw [isNone_den h1]
    exact (then_of go).here ok rfl
  · exact (go_none go).elim) op_isN
theorem oo_isnot : OpR X (compareOp .IsNot) (rD2 g E notND) := Sv2.op (fun w d e x y Q ok h1 h2 go => by
  unfold notND at go
  split at go
  · rename_i hn
    refine ⟨isNone_eq h2 hn, ?_⟩
    rw [isNone_den h1]
    exact (then_of go).here ok rfl
  · exact (go_none go).elim) op_notN
/-! ### +, * -/
def addP (a b : P) : Option P := match a, b with
  | .int i, .int j => some (.int (i + j))
  | .str x, .str y => if x.length + y.length ≤ sizeLine then some (.str (x ++ y)) else none
  | .tup xs, .tup ys => if xs.length + ys.length ≤ sizeLine then some (.tup (xs ++ ys)) else none
  | .lst xs, .lst ys => if xs.length + ys.length ≤ sizeLine then some (.lst (xs ++ ys)) else none
  | _, _ => none
theorem denL_append {F : Addr → Prop} {H : Hp} : ∀ {ps qs : List P} {xs ys : List V}, DenL g F H ps xs → DenL g F H qs ys → DenL g F H (ps ++ qs) (xs ++ ys)
  | [], qs, xs, ys, h, h' => by unfold DenL at h; subst h; exact h'
  | p :: ps, qs, xs, ys, h, h' => by
    unfold DenL at h
    obtain ⟨x, r, rfl, h1, h2⟩ := h
    show DenL g F H (p :: (ps ++ qs)) (x :: (r ++ ys))
    unfold DenL
    exact ⟨x, _, rfl, h1, denL_append h2 h'⟩
/-- + of two lists -/
def rCatS : R2 := fun x y H Q => ∃ l b xs zs, x = .ref l ∧ y = .ref b ∧ Rd H l (.lst xs) ∧ Rd H b (.lst zs) ∧ xs.length + zs.length ≤ sizeLine ∧ ∀ p, H p = none → Q (.ref p) (upd H p (.lst (xs ++ zs)))
theorem op_catS : OpR X (binaryOp .Add) rCatS := by
  intro pins s σ H x y v u Q I rx ry h
  obtain ⟨l, b, xs, zs, rfl, rfl, hH, hB, hz, q⟩ := h
  cases rx
  cases ry
  obtain ⟨z, its, n, r, e⟩ := hH.ok I.hok
  obtain ⟨z2, its2, n2, r2, e2⟩ := hB.ok I.hok
  have hl := r.length
  have hl2 := r2.length
  refine PySem.P.add_list e e2 ?_ (by rw [List.size_toArray, List.size_toArray]; omega)
  have ea : its.toArray ++ its2.toArray = (its ++ its2).toArray := by simp
  rw [ea]
  exact ⟨.ref _, _, I.lnew (t' := s.toks) (r.append r2) (by rw [List.length_append]; omega), rfl, q _ I.fresh⟩
theorem oo_add (hK : X.K = g.K := by rfl) : OpR X (binaryOp .Add) (rD2 g E (lift2 addP)) := Sv2.op (sv2_lift fun a b c hf w x y Q ok h1 h2 t => by
  unfold addP at hf
  split at hf
  · rename_i i j
    have e1 : x = V.int i := h1
    have e2 : y = V.int j := h2
    subst e1 e2
    cases hf
    exact .inl ⟨i, j, rfl, rfl, t.here ok rfl⟩
  · rename_i i j
    have e1 : x = V.str i := h1
    have e2 : y = V.str j := h2
    subst e1 e2
    split at hf
    · rename_i hz
      cases hf
      exact .inr (.inl ⟨i, j, rfl, rfl, hz, t.here ok rfl⟩)
    · cases hf
  · rename_i xs ys
    split at hf
    · rename_i hz
      cases hf
      unfold Den at h1 h2
      obtain ⟨a1, us, rfl, r1, q1⟩ := h1
      obtain ⟨b1, vs, rfl, r2, q2⟩ := h2
      refine .inr (.inr (.inl ⟨a1, b1, us, vs, rfl, rfl, by rw [hK]; exact r1.sq, by rw [hK]; exact r2.sq, by rw [← denL_len q1, ← denL_len q2]; exact hz, fun e => ?_, fun _ e => ?_, fun _ _ p hp => ?_⟩))
      · subst e
        have : xs = [] := by
          have := denL_len q1
          simpa using this
        subst this
        refine t.here ok ?_
        unfold Den
        exact ⟨b1, vs, rfl, r2, q2⟩
      · subst e
        have : ys = [] := by
          have := denL_len q2
          simpa using this
        subst this
        refine t.here ok ?_
        rw [List.append_nil]
        unfold Den
        exact ⟨a1, us, rfl, r1, q1⟩
      · exact t.tup ok (denL_append q1 q2) p hp
    · cases hf
  · rename_i xs ys
    split at hf
    · rename_i hz
      cases hf
      unfold Den at h1 h2
      obtain ⟨a1, us, rfl, r1, q1⟩ := h1
      obtain ⟨b1, vs, rfl, r2, q2⟩ := h2
      exact .inr (.inr (.inr ⟨a1, b1, us, vs, rfl, rfl, r1.rd, r2.rd, by rw [← denL_len q1, ← denL_len q2]; exact hz, t.lst ok (denL_append q1 q2)⟩))
    · cases hf
  · cases hf) (OpR.or op_add (OpR.or op_add_str (OpR.or op_catA op_catS)))
/-! ### * -/
theorem tuple_mul1 (l : Addr) (items : Array Value) (n : Nat) (dd : Option Addr) (sl : Array (Option Value)) (u : Tok) :
    Meets (Builtin.«tuple.__mul__» ⟨[.ref l, .int 1 u], []⟩) (fun _ R s => s.heap.get? l = some { cls := .type "tuple", dict := dd, data := .seq items n, slots := sl } ∧ R (.ok (.ret (Value.ref l))) s) :=
  .of_wp fun prog w A R s h => by
    obtain ⟨hp, g, d, tk, os⟩ := s
    obtain ⟨hl, h⟩ := h
    have f1 := AutoSeq1.idx_int
    have c1 : (items.isEmpty || (1 : Int) == 1) = true := by simp
    wp_walk using wpAny_loadPart' hl
    repeat (first
      | (refine wpAny_ite_true (decide_eq_true c1) ?_; wp_walk using wpAny_loadPart' hl)
      | (refine wpAny_ite_true (by simp) ?_; wp_walk using wpAny_loadPart' hl)
      | (refine wpAny_ite_false (by decide) ?_; wp_walk using wpAny_loadPart' hl))
    exact ⟨_, rfl, h⟩
def rRep1 (K : PySem.W.Frag) : R2 := fun x y H Q => ∃ l xs, x = .ref l ∧ y = .int 1 ∧ SqT K H l xs ∧ Q (.ref l) H
theorem op_rep1 : OpR X (binaryOp .Mult) (rRep1 X.K) := by
  intro pins s σ H x y v u Q I rx ry h
  obtain ⟨l, xs, rfl, rfl, hT, q⟩ := h
  cases rx
  obtain ⟨t, rfl⟩ := ry
  obtain ⟨its, r, ⟨⟨cls, dd, data, sl⟩, ho, hc, n, hd⟩, hs⟩ := I.tuple hT
  simp only at hc hd
  subst hc hd
  refine wpAny_binaryOp_repeat_ref (T := "tuple") (U := "int") (by decide) ⟨_, ho, rfl⟩ (fun s' => typeIs_int s' 1 t) noFill_tuple_mul F.fills_int_mul F.slot_int_rmul repeat_tuple F.slot_int_index.lookup
    (call_meets F.slot_int_rmul (typeIs_int s 1 t) F.entry_int_rmul (F.args_int_rmul_2 _ _) (int_rmul_tuple 1 t l its.toArray n dd sl)
      ⟨ho, rfl, ⟨_, ho, rfl⟩, call_meets F.slot_tuple_mul ⟨_, ho, rfl⟩ F.entry_tuple_mul (F.args_tuple_mul_2 _ _) (tuple_mul1 l its.toArray n dd sl t) ⟨ho, ?_⟩⟩)
  exact ⟨.ref l, H, I, rfl, q⟩
/-- + of many -/
def repL (k : Nat) (xs : List P) : List P := (List.replicate k xs).flatten
def mulP (a b : P) : Option P := match a, b with
  | .int i, .int j => if i.natAbs.log2 + j.natAbs.log2 < 1000000 then some (.int (i * j)) else none
  | .tup xs, .int k => if xs ≠ [] ∧ 1 ≤ k ∧ k ≤ 1000 ∧ xs.length ≤ 1000 then some (.tup (repL k.toNat xs)) else none
  | _, _ => none
theorem denL_rep {F : Addr → Prop} {H : Hp} {ps : List P} {xs : List V} (h : DenL g F H ps xs) : ∀ k, DenL g F H (repL k ps) (List.replicate k xs).flatten
  | 0 => by unfold repL; simp; unfold DenL; rfl
  | k + 1 => by
    unfold repL
    rw [List.replicate_succ, List.replicate_succ, List.flatten_cons, List.flatten_cons]
    exact denL_append h (denL_rep h k)
theorem oo_mul (hK : X.K = g.K := by rfl) : OpR X (binaryOp .Mult) (rD2 g E (lift2 mulP)) := Sv2.op (sv2_lift fun a b c hf w x y Q ok h1 h2 t => by
  unfold mulP at hf
  split at hf
  · rename_i i j
    have e1 : x = V.int i := h1
    have e2 : y = V.int j := h2
    subst e1 e2
    split at hf
    · rename_i hz
      cases hf
      exact .inl ⟨i, j, rfl, rfl, hz, t.here ok rfl⟩
    · cases hf
  · rename_i xs k
    have e2 : y = V.int k := h2
    subst e2
    split at hf
    · rename_i hz
      cases hf
      unfold Den at h1
      obtain ⟨a1, us, rfl, r1, q1⟩ := h1
      by_cases hk : k = 1
      · subst hk
        refine .inr (.inl ⟨a1, us, rfl, rfl, by rw [hK]; exact r1.sq, t.here ok ?_⟩)
        unfold Den
        have e : repL (Int.toNat 1) xs = xs := by unfold repL; simp
        rw [e]
        exact ⟨a1, us, rfl, r1, q1⟩
      · have hne : us ≠ [] := fun e => hz.1 (by
          subst e
          have := denL_len q1
          simpa using this)
        exact .inr (.inr ⟨a1, k, us, rfl, rfl, by rw [hK]; exact r1.sq, hne, by omega, hz.2.2.1, by rw [← denL_len q1]; exact hz.2.2.2, t.tup ok (denL_rep q1 _)⟩)
    · cases hf
  · cases hf) (OpR.or op_mulW (OpR.or op_rep1 op_repT))
end
end DL

set_option maxHeartbeats 4000000
namespace DL
open PySem PySem.Spec PyProof.Rows L2
section
variable {X : Cx} {g : G} {E : XK}
/-! ### one's own things looked at -/
theorem own_scr {w : Wd} {n : Nat} {ds : List D} (k : Ok g w) {v : V} (hd : DenD g w (.own n) v) (hm : w.M[n]? = some (.scr ds)) : ∃ a xs, v = .ref a ∧ Rd w.H a (.lst xs) ∧ DenDs g w ds xs := by
  obtain ⟨a, dx, e, hio, e1, xs, h1, h2⟩ := own_at k hd hm
  exact ⟨a, xs, e, h1, h2⟩
/-- the items of a list or tuple, wherever -/
def itemsD (d : D) (M : Mem) : Option (List D) := match d with
  | .p (.lst xs) => some (xs.map .p)
  | .p (.tup xs) => some (xs.map .p)
  | .own n => match M[n]? with
    | some (.lst xs) => some xs
    | some (.scr xs) => some xs
    | some (.tup xs) => some xs
    | _ => none
  | _ => none
theorem denL_Ds {w : Wd} : ∀ {ps : List P} {vs : List V}, DenL g w.F w.H ps vs → DenDs g w (ps.map .p) vs
  | [], vs, h => by unfold DenL at h; subst h; exact .nil
  | p :: ps, vs, h => by
    unfold DenL at h
    obtain ⟨x, r, rfl, h1, h2⟩ := h
    exact .cons h1 (denL_Ds h2)
theorem items_at {w : Wd} (k : Ok g w) {d : D} {v : V} {ds : List D} (hd : DenD g w d v) (h : itemsD d w.M = some ds) : ∃ a xs, v = .ref a ∧ (SqL g.K w.H a xs ∨ SqT g.K w.H a xs) ∧ DenDs g w ds xs := by
  cases d with
  | p x =>
    cases x with
    | lst ps =>
      have e : ps.map .p = ds := Option.some.inj h
      subst e
      have hd' : Den g w.F w.H (.lst ps) v := hd
      unfold Den at hd'
      obtain ⟨a, xs, rfl, r, q⟩ := hd'
      exact ⟨a, xs, rfl, .inl r.sq, denL_Ds q⟩
    | tup ps =>
      have e : ps.map .p = ds := Option.some.inj h
      subst e
      have hd' : Den g w.F w.H (.tup ps) v := hd
      unfold Den at hd'
      obtain ⟨a, xs, rfl, r, q⟩ := hd'
      exact ⟨a, xs, rfl, .inr r.sq, denL_Ds q⟩
    | _ => cases h
  | own n =>
    unfold itemsD at h
    simp only at h
    split at h
    · rename_i xs hm
      have e := Option.some.inj h
      subst e
      obtain ⟨a, ys, rfl, h1, h2, _⟩ := own_lst k hd hm
      exact ⟨a, ys, rfl, .inl (SqL.of h1), h2⟩
    · rename_i xs hm
      have e := Option.some.inj h
      subst e
      obtain ⟨a, ys, rfl, h1, h2⟩ := own_scr k hd hm
      exact ⟨a, ys, rfl, .inl (.inl h1), h2⟩
    · rename_i xs hm
      have e := Option.some.inj h
      subst e
      obtain ⟨a, dx, rfl, _, _, ys, h1, h2⟩ := own_at k hd hm
      exact ⟨a, ys, rfl, .inr (SqT.of h1), h2⟩
    · cases h
/-! ### len -/
def lenD (d : D) (M : Mem) : Option Int := match itemsD d M with
  | some xs => some (xs.length : Int)
  | none => match d with
    | .p (.str x) => if x.length ≤ sizeLine then some (x.length : Int) else none
    | .own n => match M[n]? with
      | some (.dic ks _) => some (ks.length : Int)
      | _ => none
    | _ => none
def lenO : On := fun ds M => match ds with
  | [d] => match lenD d M with
    | some n => some (.ok (.p (.int n)), M)
    | none => none
  | _ => none
theorem cc_len (hK : X.K = g.K := by rfl) : CallR X (.builtin "len") (rDn g E lenO) := Svn.op (fun w ds xs Q k h go => by
  unfold lenO at go
  split at go
  · rename_i d
    cases h with
    | cons h1 h2 =>
      cases h2
      split at go
      · rename_i n hn
        have t := then_of go
        unfold lenD at hn
        cases hi : itemsD d w.M with
        | some ys =>
          rw [hi] at hn
          obtain ⟨a, zs, rfl, hq, hz⟩ := items_at k h1 hi
          have e := Option.some.inj hn
          subst e
          refine .inl ⟨a, zs, rfl, by rw [hK]; exact hq, ?_⟩
          rw [← hz.length]
          exact t.here k rfl
        | none =>
          rw [hi] at hn
          simp only at hn
          split at hn
          · rename_i x
            split at hn
            · rename_i hx
              have e := Option.some.inj hn
              subst e
              have e2 : _ = V.str x := h1
              subst e2
              exact .inr (.inl ⟨x, rfl, hx, t.here k rfl⟩)
            · cases hn
          · rename_i m
            split at hn
            · rename_i ks vs hm
              have e := Option.some.inj hn
              subst e
              obtain ⟨a, dx, rfl, _, _, ys, e1, e0, e2⟩ := own_at k h1 hm
              refine .inr (.inr ⟨a, _, rfl, e1, ?_⟩)
              have : (ks.zip ys).length = ks.length := by simp [e0]
              rw [this]
              exact t.here k rfl
            · cases hn
          · cases hn
      · exact (go_none go).elim
  · exact (go_none go).elim) (CallR.or call_len_seq (CallR.or call_len_str call_lenD))
/-! ### all, any, sum, max, min -/
def boolsP : List P → Option (List Bool)
  | [] => some []
  | .bl b :: r => (boolsP r).map (b :: ·)
  | _ :: _ => none
def intsP : List P → Option (List Int)
  | [] => some []
  | .int i :: r => (intsP r).map (i :: ·)
  | _ :: _ => none
theorem bools_eq : ∀ {ps : List P} {bs : List Bool}, boolsP ps = some bs → ps = bs.map .bl
  | [], bs, h => by simp [boolsP] at h; subst h; rfl
  | .bl b :: r, bs, h => by
    unfold boolsP at h
    cases hr : boolsP r with
    | none => rw [hr] at h; cases h
    | some cs =>
      rw [hr] at h
      have e : b :: cs = bs := Option.some.inj h
      subst e
      rw [bools_eq hr]; rfl
  | .non :: _, _, h => by cases h
  | .int _ :: _, _, h => by cases h
  | .str _ :: _, _, h => by cases h
  | .tup _ :: _, _, h => by cases h
  | .lst _ :: _, _, h => by cases h
  | .obj _ _ :: _, _, h => by cases h
  | .dic _ _ :: _, _, h => by cases h
  | .ty _ :: _, _, h => by cases h
  | .cls _ :: _, _, h => by cases h
theorem ints_eq : ∀ {ps : List P} {ns : List Int}, intsP ps = some ns → ps = ns.map .int
  | [], bs, h => by simp [intsP] at h; subst h; rfl
  | .int b :: r, bs, h => by
    unfold intsP at h
    cases hr : intsP r with
    | none => rw [hr] at h; cases h
    | some cs =>
      rw [hr] at h
      have e : b :: cs = bs := Option.some.inj h
      subst e
      rw [ints_eq hr]; rfl
  | .non :: _, _, h => by cases h
  | .bl _ :: _, _, h => by cases h
  | .str _ :: _, _, h => by cases h
  | .tup _ :: _, _, h => by cases h
  | .lst _ :: _, _, h => by cases h
  | .obj _ _ :: _, _, h => by cases h
  | .dic _ _ :: _, _, h => by cases h
  | .ty _ :: _, _, h => by cases h
  | .cls _ :: _, _, h => by cases h
@[simp] theorem ints_map (ns : List Int) : intsP (ns.map .int) = some ns := by
  induction ns with
  | nil => rfl
  | cons n r ih => show (intsP (r.map .int)).map (n :: ·) = _; rw [ih]; rfl
@[simp] theorem bools_map (ns : List Bool) : boolsP (ns.map .bl) = some ns := by
  induction ns with
  | nil => rfl
  | cons n r ih => show (boolsP (r.map .bl)).map (n :: ·) = _; rw [ih]; rfl
theorem den_bools {F : Addr → Prop} {H : Hp} : ∀ {bs : List Bool} {vs : List V}, DenL g F H (bs.map .bl) vs → vs = bs.map .bl
  | [], vs, h => by unfold DenL at h; exact h
  | b :: bs, vs, h => by
    have h' : DenL g F H (.bl b :: bs.map .bl) vs := h
    unfold DenL at h'
    obtain ⟨x, r, rfl, h1, h2⟩ := h'
    rw [den_bools h2]
    have : x = V.bl b := h1
    subst this
    rfl
theorem den_ints {F : Addr → Prop} {H : Hp} : ∀ {bs : List Int} {vs : List V}, DenL g F H (bs.map .int) vs → vs = bs.map .int
  | [], vs, h => by unfold DenL at h; exact h
  | b :: bs, vs, h => by
    have h' : DenL g F H (.int b :: bs.map .int) vs := h
    unfold DenL at h'
    obtain ⟨x, r, rfl, h1, h2⟩ := h'
    rw [den_ints h2]
    have : x = V.int b := h1
    subst this
    rfl
theorem ints_den {F : Addr → Prop} {H : Hp} : ∀ (ns : List Int), DenL g F H (ns.map .int) (ns.map V.int)
  | [] => by show DenL g F H [] _; unfold DenL; rfl
  | n :: ns => by
    show DenL g F H (.int n :: ns.map .int) _
    unfold DenL
    exact ⟨.int n, ns.map V.int, rfl, rfl, ints_den ns⟩
theorem lst_at {w : Wd} {ps : List P} {v : V} (h : Den g w.F w.H (.lst ps) v) : ∃ a xs, v = .ref a ∧ SqL g.K w.H a xs ∧ DenL g w.F w.H ps xs := by
  unfold Den at h
  obtain ⟨a, xs, e, r, q⟩ := h
  exact ⟨a, xs, e, r.sq, q⟩
theorem tup_at {w : Wd} {ps : List P} {v : V} (h : Den g w.F w.H (.tup ps) v) : ∃ a xs, v = .ref a ∧ SqT g.K w.H a xs ∧ DenL g w.F w.H ps xs := by
  unfold Den at h
  obtain ⟨a, xs, e, r, q⟩ := h
  exact ⟨a, xs, e, r.sq, q⟩
def one (f : P → Option P) : List P → Option P
  | [p] => f p
  | _ => none
def two (f : P → P → Option P) : List P → Option P
  | [p, q] => f p q
  | _ => none
theorem svn_one {f : P → Option P} {r : List V → Hp → VK → Prop} (h : ∀ a c, f a = some c → ∀ w x Q, Ok g w → Den g w.F w.H a x → Then g w c Q → r [x] w.H Q) : Svn g E (liftn (one f)) r := svn_lift fun ps c hf w xs Q k hd t => by
  unfold one at hf
  split at hf
  · rename_i p
    unfold DenL DenL at hd
    obtain ⟨x, r, rfl, h1, rfl⟩ := hd
    exact h p c hf w x Q k h1 t
  · cases hf
theorem svn_two {f : P → P → Option P} {r : List V → Hp → VK → Prop} (h : ∀ a b c, f a b = some c → ∀ w x y Q, Ok g w → Den g w.F w.H a x → Den g w.F w.H b y → Then g w c Q → r [x, y] w.H Q) : Svn g E (liftn (two f)) r := svn_lift fun ps c hf w xs Q k hd t => by
  unfold two at hf
  split at hf
  · rename_i p q
    unfold DenL DenL DenL at hd
    obtain ⟨x, r, rfl, h1, y, r, rfl, h2, rfl⟩ := hd
    exact h p q c hf w x y Q k h1 h2 t
  · cases hf
def allF : P → Option P
  | .lst ps => (boolsP ps).map fun bs => .bl (bs.all id)
  | _ => none
def anyF : P → Option P
  | .lst ps => (boolsP ps).map fun bs => .bl (bs.any id)
  | _ => none
theorem cc_all (hc : X.calm = true) (hK : X.K = g.K := by rfl) : CallR X (.builtin "all") (rDn g E (liftn (one allF))) := Svn.op (svn_one fun a c hf w x Q k h t => by
  cases a with
  | lst ps =>
    unfold allF at hf; simp only at hf
    cases hb : boolsP ps with
    | none => rw [hb] at hf; cases hf
    | some bs =>
      rw [hb] at hf
      have e := Option.some.inj hf
      subst e
      have e2 := bools_eq hb
      subst e2
      obtain ⟨b, xs, rfl, hq, hd⟩ := lst_at h
      have := den_bools hd
      subst this
      exact ⟨b, bs, rfl, by rw [hK]; exact hq, t.here k rfl⟩
  | _ => cases hf) (cr_all hc)
theorem cc_any (hc : X.calm = true) (hK : X.K = g.K := by rfl) : CallR X (.builtin "any") (rDn g E (liftn (one anyF))) := Svn.op (svn_one fun a c hf w x Q k h t => by
  cases a with
  | lst ps =>
    unfold anyF at hf; simp only at hf
    cases hb : boolsP ps with
    | none => rw [hb] at hf; cases hf
    | some bs =>
      rw [hb] at hf
      have e := Option.some.inj hf
      subst e
      have e2 := bools_eq hb
      subst e2
      obtain ⟨b, xs, rfl, hq, hd⟩ := lst_at h
      have := den_bools hd
      subst this
      exact ⟨b, bs, rfl, by rw [hK]; exact hq, t.here k rfl⟩
  | _ => cases hf) (cr_any hc)
def sumF : P → Option P
  | .lst ps => (intsP ps).map fun bs => .int bs.sum
  | _ => none
theorem cc_sum (hc : X.calm = true) (hK : X.K = g.K := by rfl) : CallR X (.builtin "sum") (rDn g E (liftn (one sumF))) := Svn.op (svn_one fun a c hf w x Q k h t => by
  cases a with
  | lst ps =>
    unfold sumF at hf; simp only at hf
    cases hb : intsP ps with
    | none => rw [hb] at hf; cases hf
    | some bs =>
      rw [hb] at hf
      have e := Option.some.inj hf
      subst e
      have e2 := ints_eq hb
      subst e2
      obtain ⟨b, xs, rfl, hq, hd⟩ := lst_at h
      have := den_ints hd
      subst this
      exact ⟨b, bs, rfl, by rw [hK]; exact hq, t.here k rfl⟩
  | _ => cases hf) (cr_sum hc)
/-- the greatest of whole numbers -/
def maxL : List Int → Int
  | [] => 0
  | n :: r => r.foldl max n
def minL : List Int → Int
  | [] => 0
  | n :: r => r.foldl min n
theorem foldl_max_ge (r : List Int) : ∀ n : Int, n ≤ r.foldl max n ∧ (∀ x ∈ r, x ≤ r.foldl max n) ∧ (r.foldl max n = n ∨ r.foldl max n ∈ r) := by
  induction r with
  | nil => intro n; simp
  | cons a r ih =>
    intro n
    obtain ⟨h1, h2, h3⟩ := ih (max n a)
    refine ⟨by simp only [List.foldl_cons]; omega, fun x hx => ?_, ?_⟩
    · rcases List.mem_cons.mp hx with rfl | hx
      · simp only [List.foldl_cons]; omega
      · exact h2 x hx
    · simp only [List.foldl_cons]
      rcases h3 with h3 | h3
      · rw [h3]
        by_cases h : a ≤ n
        · left; omega
        · right; rw [show max n a = a by omega]; simp
      · right; simp [h3]
theorem foldl_min_le (r : List Int) : ∀ n : Int, r.foldl min n ≤ n ∧ (∀ x ∈ r, r.foldl min n ≤ x) ∧ (r.foldl min n = n ∨ r.foldl min n ∈ r) := by
  induction r with
  | nil => intro n; simp
  | cons a r ih =>
    intro n
    obtain ⟨h1, h2, h3⟩ := ih (min n a)
    refine ⟨by simp only [List.foldl_cons]; omega, fun x hx => ?_, ?_⟩
    · rcases List.mem_cons.mp hx with rfl | hx
      · simp only [List.foldl_cons]; omega
      · exact h2 x hx
    · simp only [List.foldl_cons]
      rcases h3 with h3 | h3
      · rw [h3]
        by_cases h : n ≤ a
        · left; omega
        · right; rw [show min n a = a by omega]; simp
      · right; simp [h3]
theorem max_one {ns : List Int} {m : Int} (hm : m ∈ ns) (hl : ∀ y ∈ ns, y ≤ m) : m = maxL ns := by
  cases ns with
  | nil => simp at hm
  | cons n r =>
    obtain ⟨h1, h2, h3⟩ := foldl_max_ge r n
    show m = r.foldl max n
    have q1 : r.foldl max n ≤ m := by
      rcases h3 with h3 | h3
      · rw [h3]; exact hl n (by simp)
      · exact hl _ (by simp [h3])
    rcases List.mem_cons.mp hm with rfl | hm
    · omega
    · have := h2 m hm; omega
theorem min_one {ns : List Int} {m : Int} (hm : m ∈ ns) (hl : ∀ y ∈ ns, m ≤ y) : m = minL ns := by
  cases ns with
  | nil => simp at hm
  | cons n r =>
    obtain ⟨h1, h2, h3⟩ := foldl_min_le r n
    show m = r.foldl min n
    have q1 : m ≤ r.foldl min n := by
      rcases h3 with h3 | h3
      · rw [h3]; exact hl n (by simp)
      · exact hl _ (by simp [h3])
    rcases List.mem_cons.mp hm with rfl | hm
    · omega
    · have := h2 m hm; omega
/-- max, min of a tuple of whole numbers -/
def rMaxT (K : PySem.W.Frag) : List V → Hp → VK → Prop := fun vs H Q => ∃ (a : Addr) (ns : List Int), vs = [V.ref a] ∧ SqT K H a (ns.map V.int) ∧ 0 < ns.length ∧ Q (.int (maxL ns)) H
def rMinT (K : PySem.W.Frag) : List V → Hp → VK → Prop := fun vs H Q => ∃ (a : Addr) (ns : List Int), vs = [V.ref a] ∧ SqT K H a (ns.map V.int) ∧ 0 < ns.length ∧ Q (.int (minL ns)) H
theorem reads_ints {h : Heap} : ∀ {ns : List Int} {its : List Value}, Vals (ns.map V.int) its → ReadsAll h its (ns.map .int) []
  | [], _, .nil => .nil
  | n :: r, _, .cons ⟨t, e⟩ q => by
    subst e
    exact .cons (as := []) (bs := []) (.int n t) (reads_ints q)
theorem alike_ints (ns : List Int) : PySem.W.AlikeAll (ns.map PyData.int) := ⟨fun x hx y hy => by
  obtain ⟨i, _, rfl⟩ := List.mem_map.mp hx
  obtain ⟨j, _, rfl⟩ := List.mem_map.mp hy
  rfl, fun x hx => by
  obtain ⟨i, _, rfl⟩ := List.mem_map.mp hx
  intro z
  cases z⟩
theorem depth_ints (ns : List Int) : PyData.depthAll (ns.map PyData.int) = 0 := by
  induction ns with
  | nil => rfl
  | cons n r ih => show max (PyData.depth (.int n)) (PyData.depthAll (r.map .int)) = 0; rw [ih]; rfl
theorem cr_maxT (hc : X.calm = true) (hu : X.A.units + 1 < cLine) : CallR X (.builtin "max") (rMaxT X.K) := by
  intro pins s σ H vs us Q I r h
  obtain ⟨a, ns, rfl, hs, hne, q⟩ := h
  obtain ⟨its, rv, p, _⟩ := I.tuple hs
  rw [Vals.ref1 r]
  cases ns with
  | nil => simp at hne
  | cons n ns =>
    have hr : ReadsAll s.heap its.toArray.toList (PyData.int n :: ns.map .int) [] := by
      have := reads_ints (h := s.heap) rv
      simpa using this
    refine PySem.W.max_tuple_data (I.ok.hd hc) p hr (alike_ints (n :: ns)) (by rw [show PyData.int n :: ns.map PyData.int = (n :: ns).map PyData.int from rfl, depth_ints]; omega) fun i v h' tk bs hv rd hk => ?_
    rw [PySem.W.maxD_ints] at rd
    cases rd
    exact ⟨.int _, H, I.kept hk, ⟨_, rfl⟩, q⟩
theorem cr_minT (hc : X.calm = true) (hu : X.A.units + 1 < cLine) : CallR X (.builtin "min") (rMinT X.K) := by
  intro pins s σ H vs us Q I r h
  obtain ⟨a, ns, rfl, hs, hne, q⟩ := h
  obtain ⟨its, rv, p, _⟩ := I.tuple hs
  rw [Vals.ref1 r]
  cases ns with
  | nil => simp at hne
  | cons n ns =>
    have hr : ReadsAll s.heap its.toArray.toList (PyData.int n :: ns.map .int) [] := by
      have := reads_ints (h := s.heap) rv
      simpa using this
    refine PySem.W.min_tuple_data (I.ok.hd hc) p hr (alike_ints (n :: ns)) (by rw [show PyData.int n :: ns.map PyData.int = (n :: ns).map PyData.int from rfl, depth_ints]; omega) fun i v h' tk bs hv rd hk => ?_
    rw [PySem.W.minD_ints] at rd
    cases rd
    exact ⟨.int _, H, I.kept hk, ⟨_, rfl⟩, q⟩
def seqInts : P → Option (List Int)
  | .lst ps => intsP ps
  | .tup ps => intsP ps
  | _ => none
def maxF : List P → Option P
  | [p] => match seqInts p with
    | some (n :: r) => some (.int (maxL (n :: r)))
    | _ => none
  | [.int i, .int j] => some (.int (if j > i then j else i))
  | _ => none
def minF : List P → Option P
  | [p] => match seqInts p with
    | some (n :: r) => some (.int (minL (n :: r)))
    | _ => none
  | [.int i, .int j] => some (.int (if j < i then j else i))
  | _ => none
theorem cc_max (hc : X.calm = true) (hu : X.A.units + 1 < cLine) (hK : X.K = g.K := by rfl) : CallR X (.builtin "max") (rDn g E (liftn maxF)) := Svn.op (svn_lift fun ps c hf w xs Q k hd t => by
  unfold maxF at hf
  split at hf
  · rename_i p
    unfold DenL DenL at hd
    obtain ⟨x, r, rfl, h1, rfl⟩ := hd
    split at hf
    · rename_i n r hs
      cases hf
      cases p with
      | lst qs =>
        have e := ints_eq hs
        subst e
        obtain ⟨b, ys, rfl, hq, hd⟩ := lst_at h1
        have := den_ints hd
        subst this
        refine .inl ⟨b, n :: r, rfl, by rw [hK]; exact hq, by simp, fun m hm hl => ?_⟩
        rw [max_one hm hl]
        exact t.here k rfl
      | tup qs =>
        have e := ints_eq hs
        subst e
        obtain ⟨b, ys, rfl, hq, hd⟩ := tup_at h1
        have := den_ints hd
        subst this
        exact .inr (.inl ⟨b, n :: r, rfl, by rw [hK]; exact hq, by simp, t.here k rfl⟩)
      | _ => cases hs
    · cases hf
  · rename_i i j
    cases hf
    unfold DenL DenL DenL at hd
    obtain ⟨x, r, rfl, h1, y, r, rfl, h2, rfl⟩ := hd
    have e1 : x = V.int i := h1
    have e2 : y = V.int j := h2
    subst e1 e2
    exact .inr (.inr ⟨i, j, rfl, t.here k rfl⟩)
  · cases hf) (CallR.or (cr_max hc) (CallR.or (cr_maxT hc hu) (call_max2 hc)))
theorem cc_min (hc : X.calm = true) (hu : X.A.units + 1 < cLine) (hK : X.K = g.K := by rfl) : CallR X (.builtin "min") (rDn g E (liftn minF)) := Svn.op (svn_lift fun ps c hf w xs Q k hd t => by
  unfold minF at hf
  split at hf
  · rename_i p
    unfold DenL DenL at hd
    obtain ⟨x, r, rfl, h1, rfl⟩ := hd
    split at hf
    · rename_i n r hs
      cases hf
      cases p with
      | lst qs =>
        have e := ints_eq hs
        subst e
        obtain ⟨b, ys, rfl, hq, hd⟩ := lst_at h1
        have := den_ints hd
        subst this
        refine .inl ⟨b, n :: r, rfl, by rw [hK]; exact hq, by simp, fun m hm hl => ?_⟩
        rw [min_one hm hl]
        exact t.here k rfl
      | tup qs =>
        have e := ints_eq hs
        subst e
        obtain ⟨b, ys, rfl, hq, hd⟩ := tup_at h1
        have := den_ints hd
        subst this
        exact .inr (.inl ⟨b, n :: r, rfl, by rw [hK]; exact hq, by simp, t.here k rfl⟩)
      | _ => cases hs
    · cases hf
  · rename_i i j
    cases hf
    unfold DenL DenL DenL at hd
    obtain ⟨x, r, rfl, h1, y, r, rfl, h2, rfl⟩ := hd
    have e1 : x = V.int i := h1
    have e2 : y = V.int j := h2
    subst e1 e2
    exact .inr (.inr ⟨i, j, rfl, t.here k rfl⟩)
  · cases hf) (CallR.or (cr_min hc) (CallR.or (cr_minT hc hu) (call_min2 hc)))
def absF : P → Option P
  | .int i => some (.int (if i < 0 then -i else i))
  | _ => none
theorem cc_abs : CallR X (.builtin "abs") (rDn g E (liftn (one absF))) := Svn.op (svn_one fun a c hf w x Q k h t => by
  cases a with
  | int i =>
    cases hf
    have e : x = V.int i := h
    subst e
    exact ⟨i, rfl, t.here k rfl⟩
  | _ => cases hf) call_abs
def intF : P → Option P
  | .int i => some (.int i)
  | .bl b => some (.int (if b then 1 else 0))
  | _ => none
theorem cc_int : CallR X (.type "int") (rDn g E (liftn (one intF))) := Svn.op (svn_one fun a c hf w x Q k h t => by
  cases a with
  | int i =>
    cases hf
    have e : x = V.int i := h
    subst e
    exact .inl ⟨i, rfl, t.here k rfl⟩
  | bl i =>
    cases hf
    have e : x = V.bl i := h
    subst e
    exact .inr ⟨i, rfl, t.here k rfl⟩
  | _ => cases hf) call_int1
def strF : P → Option P
  | .int i => if i.natAbs.log2 < 1920 then some (.str (toString i)) else none
  | .str x => some (.str x)
  | _ => none
theorem cc_str : CallR X (.type "str") (rDn g E (liftn (one strF))) := Svn.op (svn_one fun a c hf w x Q k h t => by
  cases a with
  | int i =>
    have hf2 : (if i.natAbs.log2 < 1920 then some (P.str (toString i)) else none) = some c := hf
    split at hf2
    · rename_i hl
      have e0 := Option.some.inj hf2
      subst e0
      have e : x = V.int i := h
      subst e
      exact .inl ⟨i, rfl, hl, t.here k rfl⟩
    · cases hf2
  | str i =>
    cases hf
    have e : x = V.str i := h
    subst e
    exact .inr ⟨i, rfl, t.here k rfl⟩
  | _ => cases hf) (CallR.or call_str_int SkE.call_str_str)
end
end DL

set_option maxHeartbeats 4000000
namespace PySem
open PySem PySem.Spec PyProof.Rows
section
variable {prog : Program} {w : World} {A : Around} {E : Value → Shared → Prop} {s : Shared} {z TI TO T i1 i2 : Addr} {fp1 fp2 : List Addr} {n1 n2 i : Nat} {P1 P2 : Nat → Value → Prop} {St1 St2 : Nat → Heap → Prop} {f : Bool} {oT : Obj}
theorem zipH_item {Q : Value → Shared → Prop} (S : ZipSep2 z TI TO i1 i2 fp1 fp2) (D1 : Draws prog w A i1 fp1 n1 P1 St1) (D2 : Draws prog w A i2 fp2 n2 P2 St2)
    (hz : IsZipHeld s.heap z TI TO T f) (hT : s.heap.get? T = some oT) (hTI : IsTupOf2 s.heap TI (.ref i1) (.ref i2)) (st1 : St1 i s.heap) (st2 : St2 i s.heap) (hlt1 : i < n1) (hlt2 : i < n2)
    (hQ : ∀ x1 x2 h' tk, P1 i x1 → P2 i x2 → IsZipHeld h' z TI TO T true → St1 (i + 1) h' → St2 (i + 1) h' → IsTupOf2 h' s.heap.objs.size x1 x2 → h'.objs.size = s.heap.objs.size + 1 →
      (∀ c o, c ≠ z → c ≠ i1 → c ≠ i2 → s.heap.get? c = some o → h'.get? c = some o) → Q (.ref s.heap.objs.size) { s with heap := h', toks := tk }) :
    wpAny (model prog w) A (Builtin.«zip.__next__» ⟨[.ref z], []⟩) (fun fin s' => ∃ v, fin = .done (.ret v) ∧ Q v s') E s := by
  obtain ⟨hp, g, d, tk0, os⟩ := s
  show wpAny _ _ (field (.ref z) 2 >>= _) _ _ _
  refine wpAny_bind (wpAny_field hz rfl (x := .bool false) rfl ?_)
  show wpAny _ _ (field (.ref z) 3 >>= _) _ _ _
  refine wpAny_bind (wpAny_field hz rfl (x := .ref TI) rfl ?_)
  refine wpAny_bind (wpAny_seqItems hTI rfl ?_)
  show wpAny _ _ (Builtin.SmallTypes.ownedTupleIsFree (.ref z) >>= _) _ _ _
  refine wpAny_bind (wpAny_tupleHeld_zip hz hT fun h₁ hz₁ hs₁ => ?_)
  replace hs₁ : Heap.SameBut z hp h₁ := hs₁
  simp only [Bool.false_eq_true, if_false]
  refine wpAny_bind ?_
  rw [← Array.forIn_toList]
  simp only [List.forIn_cons, List.forIn_nil]
  refine wpAny_bind (wpAny_bind (wpAny_holding ?_))
  show wpAny _ _ (Builtin.SmallTypes.nextOf (.ref i1) >>= _) _ _ ⟨h₁, g, d, tk0, os⟩
  refine wpAny_bind (D1.item i ⟨h₁, g, d, tk0, os⟩ _ _ hlt1 (D1.over st1 hs₁ S.zf1) fun x1 p1 tk1 hx1 sn1 hp1 => wpAny_pure ?_)
  replace hp1 : Heap.SameBut i1 h₁ p1 := hp1
  refine wpAny_pure ?_
  refine wpAny_bind (wpAny_bind (wpAny_holding ?_))
  show wpAny _ _ (Builtin.SmallTypes.nextOf (.ref i2) >>= _) _ _ ⟨p1, g, d, tk1, os⟩
  refine wpAny_bind (D2.item i ⟨p1, g, d, tk1, os⟩ _ _ hlt2 (D2.over (D2.over st2 hs₁ S.zf2) hp1 S.sep1_2) fun x2 p2 tk2 hx2 sn2 hp2 => wpAny_pure ?_)
  replace hp2 : Heap.SameBut i2 p1 p2 := hp2
  refine wpAny_pure (wpAny_pure ?_)
  show wpAny _ _ (newTuple [x1, x2] >>= _) _ _ ⟨p2, g, d, tk2, os⟩
  refine wpAny_bind (wpAny_newTuple ?_)
  have hsz : p2.objs.size = hp.objs.size := by rw [hp2.1, hp1.1, hs₁.1]
  have hz₃ : IsZipHeld p2 z TI TO T true := hp2.extBut _ _ S.zi2 (hp1.extBut _ _ S.zi1 hz₁)
  have hk : ∀ c o, c ≠ z → c ≠ i1 → c ≠ i2 → hp.get? c = some o → p2.get? c = some o := fun c o c1 c2 c3 e => hp2.extBut _ _ c3 (hp1.extBut _ _ c2 (hs₁.extBut _ _ c1 e))
  have sn1' : St1 (i + 1) p2 := D1.over sn1 hp2 S.sep2_1
  refine wpAny_pure ⟨_, rfl, ?_⟩
  show Q (.ref p2.objs.size) _
  have hpp : IsTupOf2 (p2.push { cls := .type "tuple", data := .seq #[x1, x2] }) p2.objs.size x1 x2 := Heap.get?_push_size _ rfl
  have hz4 : (p2.push { cls := .type "tuple", data := .seq #[x1, x2] }).objs.size = p2.objs.size + 1 := Heap.size_push ..
  rw [hsz] at hpp hz4 ⊢
  exact hQ x1 x2 _ tk2 hx1 hx2 (Heap.get?_push_of_some _ hz₃) (D1.frame _ _ _ sn1' fun b _ o e => Heap.get?_push_of_some _ e) (D2.frame _ _ _ sn2 fun b _ o e => Heap.get?_push_of_some _ e) hpp hz4 fun c o c1 c2 c3 e => Heap.get?_push_of_some _ (hk c o c1 c2 c3 e)
theorem zipH_end {Q : Fin → Shared → Prop} (S : ZipSep2 z TI TO i1 i2 fp1 fp2) (D1 : Draws prog w A i1 fp1 n1 P1 St1) (D2 : Draws prog w A i2 fp2 n2 P2 St2)
    (hz : IsZipHeld s.heap z TI TO T f) (hT : s.heap.get? T = some oT) (hTI : IsTupOf2 s.heap TI (.ref i1) (.ref i2)) (st1 : St1 i s.heap) (st2 : St2 i s.heap) (hle1 : i ≤ n1) (hle2 : i ≤ n2) (hend : i = n1 ∨ i = n2)
    (hE : ∀ h' tk e, (∀ c o, c ≠ z → c ≠ i1 → c ≠ i2 → s.heap.get? c = some o → h'.get? c = some o) → (∃ o, h'.get? e = some o ∧ o.cls = .type "StopIteration") → E (.ref e) { s with heap := h', toks := tk }) :
    wpAny (model prog w) A (Builtin.«zip.__next__» ⟨[.ref z], []⟩) Q E s := by
  obtain ⟨hp, g, d, tk0, os⟩ := s
  show wpAny _ _ (field (.ref z) 2 >>= _) _ _ _
  refine wpAny_bind (wpAny_field hz rfl (x := .bool false) rfl ?_)
  show wpAny _ _ (field (.ref z) 3 >>= _) _ _ _
  refine wpAny_bind (wpAny_field hz rfl (x := .ref TI) rfl ?_)
  refine wpAny_bind (wpAny_seqItems hTI rfl ?_)
  show wpAny _ _ (Builtin.SmallTypes.ownedTupleIsFree (.ref z) >>= _) _ _ _
  refine wpAny_bind (wpAny_tupleHeld_zip hz hT fun h₁ hz₁ hs₁ => ?_)
  replace hs₁ : Heap.SameBut z hp h₁ := hs₁
  simp only [Bool.false_eq_true, if_false]
  refine wpAny_bind ?_
  rw [← Array.forIn_toList]
  simp only [List.forIn_cons, List.forIn_nil]
  refine wpAny_bind (wpAny_bind (wpAny_holding ?_))
  show wpAny _ _ (Builtin.SmallTypes.nextOf (.ref i1) >>= _) _ _ ⟨h₁, g, d, tk0, os⟩
  by_cases hlt1 : i < n1
  · have hi2 : i = n2 := by omega
    refine wpAny_bind (D1.item i ⟨h₁, g, d, tk0, os⟩ _ _ hlt1 (D1.over st1 hs₁ S.zf1) fun x1 p1 tk1 hx1 sn1 hp1 => wpAny_pure ?_)
    replace hp1 : Heap.SameBut i1 h₁ p1 := hp1
    refine wpAny_pure ?_
    refine wpAny_bind (wpAny_bind (wpAny_holding ?_))
    show wpAny _ _ (Builtin.SmallTypes.nextOf (.ref i2) >>= _) _ _ ⟨p1, g, d, tk1, os⟩
    refine wpAny_bind (D2.done ⟨p1, g, d, tk1, os⟩ _ _ (by rw [← hi2]; exact D2.over (D2.over st2 hs₁ S.zf2) hp1 S.sep1_2) fun q e hq he => ?_)
    replace hq : Heap.ExtBut i2 p1 q := hq
    exact hE q tk1 e (fun c o cz c1 c2 x => hq _ _ c2 (hp1.extBut _ _ c1 (hs₁.extBut _ _ cz x))) he
  · have hi1 : i = n1 := by omega
    refine wpAny_bind (D1.done ⟨h₁, g, d, tk0, os⟩ _ _ (by rw [← hi1]; exact D1.over st1 hs₁ S.zf1) fun q e hq he => ?_)
    replace hq : Heap.ExtBut i1 h₁ q := hq
    exact hE q tk0 e (fun c o cz c1 c2 x => hq _ _ c1 (hs₁.extBut _ _ cz x)) he
theorem zipH_pyItem {Q : Option Value → Shared → Prop} (S : ZipSep2 z TI TO i1 i2 fp1 fp2) (D1 : Draws prog w A.in1 i1 fp1 n1 P1 St1) (D2 : Draws prog w A.in1 i2 fp2 n2 P2 St2)
    (hz : IsZipHeld s.heap z TI TO T f) (hT : s.heap.get? T = some oT) (hTI : IsTupOf2 s.heap TI (.ref i1) (.ref i2)) (st1 : St1 i s.heap) (st2 : St2 i s.heap) (hlt1 : i < n1) (hlt2 : i < n2)
    (hQ : ∀ x1 x2 h' tk, P1 i x1 → P2 i x2 → IsZipHeld h' z TI TO T true → St1 (i + 1) h' → St2 (i + 1) h' → IsTupOf2 h' s.heap.objs.size x1 x2 → h'.objs.size = s.heap.objs.size + 1 →
      (∀ c o, c ≠ z → c ≠ i1 → c ≠ i2 → s.heap.get? c = some o → h'.get? c = some o) → Q (some (.ref s.heap.objs.size)) { s with heap := h', toks := tk }) :
    wpAny (model prog w) A (pyNext (.ref z)) Q E s := by
  have hTy : s.TypeIs (.ref z) "zip" := ⟨_, hz, rfl⟩
  unfold pyNext
  exact wpAny_bind (wpAny_attempt (wpAny_callSpecial?_slot (name := Str.ofString "__next__") hTy F.slot_zip_next
    (wpAny_call_entry F.slot_zip_next hTy F.entry_zip_next
      (zipH_item S D1 D2 hz hT hTI st1 st2 hlt1 hlt2 fun x1 x2 h' tk y1 y2 b1 d1 d2 b5 b6 b7 => wpAny_pure (hQ x1 x2 h' tk y1 y2 b1 d1 d2 b5 b6 b7)) (F.args_zip_next_1 _))))
theorem zipH_pyEnd {Q : Option Value → Shared → Prop} (S : ZipSep2 z TI TO i1 i2 fp1 fp2) (D1 : Draws prog w A.in1 i1 fp1 n1 P1 St1) (D2 : Draws prog w A.in1 i2 fp2 n2 P2 St2)
    (hz : IsZipHeld s.heap z TI TO T f) (hT : s.heap.get? T = some oT) (hTI : IsTupOf2 s.heap TI (.ref i1) (.ref i2)) (st1 : St1 i s.heap) (st2 : St2 i s.heap) (hle1 : i ≤ n1) (hle2 : i ≤ n2) (hend : i = n1 ∨ i = n2)
    (hQ : ∀ h' tk, (∀ c o, c ≠ z → c ≠ i1 → c ≠ i2 → s.heap.get? c = some o → h'.get? c = some o) → Q none { s with heap := h', toks := tk }) : wpAny (model prog w) A (pyNext (.ref z)) Q E s := by
  have hTy : s.TypeIs (.ref z) "zip" := ⟨_, hz, rfl⟩
  unfold pyNext
  refine wpAny_bind (wpAny_attempt (wpAny_callSpecial?_slot (name := Str.ofString "__next__") hTy F.slot_zip_next
    (wpAny_call_entry F.slot_zip_next hTy F.entry_zip_next (zipH_end S D1 D2 hz hT hTI st1 st2 hle1 hle2 hend fun h' tk e hk he => ?_) (F.args_zip_next_1 _))))
  obtain ⟨o, ho, hc⟩ := he
  refine wpAny_bind (wpAny_isInstance (T := "StopIteration") (b := true) ⟨o, ho, hc⟩ isSubtype_stop ?_)
  exact wpAny_pure (hQ _ _ hk)
/-- pairs that were put into the list so far -/
def PairsIn (P1 P2 : Nat → Value → Prop) (W : List Addr) (N : Nat) (h : Heap) (acc : Array Value) (i : Nat) : Prop :=
  acc.size = i ∧ ∃ Ts : List Addr, acc.toList = Ts.map Value.ref ∧ Ts.Nodup ∧ ∀ (j : Nat) a, Ts[j]? = some a → (N ≤ a ∧ a ∉ W) ∧ ∃ x y, P1 j x ∧ P2 j y ∧ IsTupOf2 h a x y
theorem zip_fill {R : Result → Shared → Prop} (S : ZipSep2 z TI TO i1 i2 fp1 fp2) (D1 : Draws prog w A.in1.in1 i1 fp1 n1 P1 St1) (D2 : Draws prog w A.in1.in1 i2 fp2 n2 P2 St2) (L : Addr) (hL1 : L ∉ fp1) (hL2 : L ∉ fp2) (hLz : L ≠ z) (hLI : L ≠ TI) (hLO : L ≠ TO) (hn : min n1 n2 ≤ sizeLine) (res : Value) (N : Nat) :
    ∀ (k i : Nat) (s : Shared) (acc : Array Value) (c : Nat), min n1 n2 - i = k → i ≤ min n1 n2 →
      ((i = 0 ∧ IsZip s.heap z TI TO .none ∧ ∃ a1 a2, IsTupOf2 s.heap TO a1 a2) ∨ ∃ T f oT, IsZipHeld s.heap z TI TO T f ∧ s.heap.get? T = some oT ∧ T ∉ [L, z, TO, i1, i2]) →
      IsTupOf2 s.heap TI (.ref i1) (.ref i2) → TI ∉ [L, z, TO, i1, i2] → St1 i s.heap → St2 i s.heap → N ≤ s.heap.objs.size →
      s.heap.get? L = some { cls := .type "list", dict := none, data := .seq acc c, slots := #[] } → PairsIn P1 P2 [L, z, TO, i1, i2] N s.heap acc i → (∀ b ∈ [L, z, TO, i1, i2], b < s.heap.objs.size) →
      (∀ h' tk acc' c', (∀ b o, b ∉ [L, z, TO, i1, i2] → s.heap.get? b = some o → h'.get? b = some o) → h'.get? L = some { cls := .type "list", dict := none, data := .seq acc' c', slots := #[] } → PairsIn P1 P2 [L, z, TO, i1, i2] N h' acc' (min n1 n2) →
        R (.ok (.ret res)) { s with heap := h', toks := tk }) →
      codeAny (model prog w) A (.builtin "list.extend.loop" ⟨[.ref L, .ref z, res], []⟩) R s := by
  intro k
  induction k with
  | zero =>
    intro i s acc c hk hi hzs hTI hTW st1 st2 hN hL hacc hlt hR
    have hin : i = min n1 n2 := by omega
    refine codeAny_builtin F.entry_extend_loop ?_
    rw [Around.under_plainId F.plain_extend_loop _]
    show wpAny _ A.in1 (pyNext (.ref z) >>= _) _ _ s
    have fin : ∀ h' tk, (∀ c o, c ≠ z → c ≠ TO → c ≠ i1 → c ≠ i2 → s.heap.get? c = some o → h'.get? c = some o) → R (.ok (.ret res)) { s with heap := h', toks := tk } := fun h' tk hk' => by
      have hL' : h'.get? L = some { cls := .type "list", dict := none, data := .seq acc c, slots := #[] } := hk' L _ hLz hLO (fun e => hL1 (e ▸ S.mem1)) (fun e => hL2 (e ▸ S.mem2)) hL
      refine hR h' tk acc c (fun b o hb e => hk' b o (fun q => hb (by simp [q])) (fun q => hb (by simp [q])) (fun q => hb (by simp [q])) (fun q => hb (by simp [q])) e) hL' ?_
      obtain ⟨q1, Ts, q2, q0, q3⟩ := hacc
      refine ⟨q1.trans hin, Ts, q2, q0, fun j a ha => ?_⟩
      obtain ⟨⟨b1, b2⟩, x, y, b3, b4, b5⟩ := q3 j a ha
      exact ⟨⟨b1, b2⟩, x, y, b3, b4, hk' a _ (fun q => b2 (by simp [q])) (fun q => b2 (by simp [q])) (fun q => b2 (by simp [q])) (fun q => b2 (by simp [q])) b5⟩
    have hend : i = n1 ∨ i = n2 := by omega
    rcases hzs with ⟨e0, hz, a1, a2, hTO⟩ | ⟨T, f, oT, hz, hT, hTw⟩
    · exact wpAny_bind (wpAny_pyNext_zipD2_end S D1 D2 hz hTI hTO st1 st2 (by omega) (by omega) hend fun h' tk hk' => wpAny_pure (fin h' tk hk'))
    · exact wpAny_bind (zipH_pyEnd S D1 D2 hz hT hTI st1 st2 (by omega) (by omega) hend fun h' tk hk' => wpAny_pure (fin h' tk fun c o c1 _ c3 c4 e => hk' c o c1 c3 c4 e))
  | succ k ih =>
    intro i s acc c hk hi hzs hTI hTW st1 st2 hN hL hacc hlt hR
    have hlt1 : i < n1 := by omega
    have hlt2 : i < n2 := by omega
    refine codeAny_builtin F.entry_extend_loop ?_
    rw [Around.under_plainId F.plain_extend_loop _]
    show wpAny _ A.in1 (pyNext (.ref z) >>= _) _ _ s
    have hWs : ∀ b ∈ [L, z, TO, i1, i2], b ≠ s.heap.objs.size := fun b hb => Nat.ne_of_lt (hlt b hb)
    have go : ∀ x1 x2 h' tk, P1 i x1 → P2 i x2 → (∃ T f oT, IsZipHeld h' z TI TO T f ∧ h'.get? T = some oT ∧ T ∉ [L, z, TO, i1, i2]) → St1 (i + 1) h' → St2 (i + 1) h' → IsTupOf2 h' s.heap.objs.size x1 x2 → h'.objs.size = s.heap.objs.size + 1 →
        (∀ c o, c ≠ z → c ≠ TO → c ≠ i1 → c ≠ i2 → s.heap.get? c = some o → h'.get? c = some o) →
        codeAny (model prog w) A (.builtin "list.extend.loop" ⟨[.ref L, .ref z, res], []⟩) R { s with heap := h'.update L (Obj.mapSeq (·.push (.ref s.heap.objs.size))), toks := tk } := by
      intro x1 x2 h' tk hx1 hx2 hz' sn1 sn2 hT' hsz hk'
      have hL' : h'.get? L = some { cls := .type "list", dict := none, data := .seq acc c, slots := #[] } := hk' L _ hLz hLO (fun e => hL1 (e ▸ S.mem1)) (fun e => hL2 (e ▸ S.mem2)) hL
      have oth : ∀ b o, b ≠ L → h'.get? b = some o → (h'.update L (Obj.mapSeq (·.push (.ref s.heap.objs.size)))).get? b = some o := fun b o hb e => (Heap.get?_update_other _ _ (Ne.symm hb)).trans e
      obtain ⟨T, f, oT, hz1, hT1, hTw⟩ := hz'
      have hTL : T ≠ L := fun q => hTw (by simp [q])
      have hszU : (h'.update L (Obj.mapSeq (·.push (.ref s.heap.objs.size)))).objs.size = h'.objs.size := (Heap.SameBut.update ..).1
      refine ih (i + 1) _ (acc.push (.ref s.heap.objs.size)) _ (by omega) (by omega) (.inr ⟨T, f, oT, oth z _ (Ne.symm hLz) hz1, oth T _ hTL hT1, hTw⟩) (oth TI _ (Ne.symm hLI) (hk' TI _ (fun q => hTW (by simp [q])) (fun q => hTW (by simp [q])) (fun q => hTW (by simp [q])) (fun q => hTW (by simp [q])) hTI)) hTW
        (D1.frame _ _ _ sn1 fun b hb o e => oth b o (fun q => hL1 (q ▸ hb)) e) (D2.frame _ _ _ sn2 fun b hb o e => oth b o (fun q => hL2 (q ▸ hb)) e) ?_ (Heap.get?_update_self _ hL' rfl) ?_ (fun b hb => ?_) fun h2 tk2 acc' c' k2 l2 p2 => ?_
      · show N ≤ (h'.update L (Obj.mapSeq (·.push (.ref s.heap.objs.size)))).objs.size
        rw [hszU, hsz]
        omega
      · obtain ⟨q1, Ts, q2, q0, q3⟩ := hacc
        refine ⟨by rw [Array.size_push, q1], Ts ++ [s.heap.objs.size], by rw [Array.toList_push, q2, List.map_append]; rfl, ?_, fun j a ha => ?_⟩
        · rw [List.nodup_append]
          refine ⟨q0, by simp, fun a ha b hb => ?_⟩
          simp at hb
          subst hb
          obtain ⟨j, hj⟩ := List.getElem?_of_mem ha
          obtain ⟨_, x, y, _, _, b5⟩ := q3 j a hj
          exact Nat.ne_of_lt (Heap.lt_size b5)
        · by_cases hj : j < Ts.length
          · rw [List.getElem?_append_left hj] at ha
            obtain ⟨⟨b1, b2⟩, x, y, b3, b4, b5⟩ := q3 j a ha
            exact ⟨⟨b1, b2⟩, x, y, b3, b4, oth a _ (fun q => b2 (by simp [q])) (hk' a _ (fun q => b2 (by simp [q])) (fun q => b2 (by simp [q])) (fun q => b2 (by simp [q])) (fun q => b2 (by simp [q])) b5)⟩
          · rw [List.getElem?_append_right (by omega)] at ha
            have hl : Ts.length = i := by
              have := congrArg List.length q2
              simp at this
              omega
            have hz2 := (List.getElem?_eq_some_iff.mp ha).1
            simp at hz2
            have ej : j = i := by omega
            subst ej
            rw [hl] at ha
            simp at ha
            subst ha
            exact ⟨⟨hN, fun hm => absurd rfl (hWs _ hm)⟩, x1, x2, hx1, hx2, oth _ _ (fun q => hWs L (by simp) q.symm) hT'⟩
      · show b < (h'.update L (Obj.mapSeq (·.push (.ref s.heap.objs.size)))).objs.size
        rw [hszU, hsz]
        exact Nat.lt_succ_of_lt (hlt b hb)
      · refine hR h2 tk2 acc' c' (fun b o hb e => k2 b o hb ?_) l2 p2
        exact oth b o (fun q => hb (by simp [q])) (hk' b o (fun q => hb (by simp [q])) (fun q => hb (by simp [q])) (fun q => hb (by simp [q])) (fun q => hb (by simp [q])) e)
    have hsa : acc.size ≤ sizeLine - 1 := by
      rw [hacc.1]
      omega
    rcases hzs with ⟨e0, hz, a1, a2, hTO⟩ | ⟨T, f, oT, hz, hT, hTw⟩
    · refine wpAny_bind (wpAny_pyNext_zipD2_item S D1 D2 hz hTI hTO st1 st2 hlt1 hlt2 fun x1 x2 h' tk hx1 hx2 hz' hTO' sn1 sn2 hT' hsz hk' => ?_)
      have hL' : h'.get? L = some { cls := .type "list", dict := none, data := .seq acc c, slots := #[] } := hk' L _ hLz hLO (fun e => hL1 (e ▸ S.mem1)) (fun e => hL2 (e ▸ S.mem2)) hL
      show wpAny _ A.in1 (updateSeq L (·.push (.ref s.heap.objs.size)) >>= _) _ _ _
      refine wpAny_bind (wpAny_updateSeq (s := { s with heap := h', toks := tk }) hL' rfl (wpAny_pure ⟨plainId_quiet F.plain_extend_loop _, go x1 x2 h' tk hx1 hx2 ⟨s.heap.objs.size, false, _, hz', hT', fun hm => absurd rfl (hWs _ hm)⟩ sn1 sn2 hT' hsz hk'⟩) (by omega) (by rw [Array.size_push]; omega))
    · refine wpAny_bind (zipH_pyItem S D1 D2 hz hT hTI st1 st2 hlt1 hlt2 fun x1 x2 h' tk hx1 hx2 hz' sn1 sn2 hT' hsz hk' => ?_)
      have hk2 : ∀ c o, c ≠ z → c ≠ TO → c ≠ i1 → c ≠ i2 → s.heap.get? c = some o → h'.get? c = some o := fun c o c1 _ c3 c4 e => hk' c o c1 c3 c4 e
      have hL' : h'.get? L = some { cls := .type "list", dict := none, data := .seq acc c, slots := #[] } := hk2 L _ hLz hLO (fun e => hL1 (e ▸ S.mem1)) (fun e => hL2 (e ▸ S.mem2)) hL
      show wpAny _ A.in1 (updateSeq L (·.push (.ref s.heap.objs.size)) >>= _) _ _ _
      refine wpAny_bind (wpAny_updateSeq (s := { s with heap := h', toks := tk }) hL' rfl (wpAny_pure ⟨plainId_quiet F.plain_extend_loop _, go x1 x2 h' tk hx1 hx2 ⟨T, true, oT, hz', hk' T _ (fun q => hTw (by simp [q])) (fun q => hTw (by simp [q])) (fun q => hTw (by simp [q])) hT, hTw⟩ sn1 sn2 hT' hsz hk2⟩) (by omega) (by rw [Array.size_push]; omega))
theorem zip_no_len : typeLookup (.type "zip") "__len__" = pure none := am_miss_of_fast (by decide +kernel)
theorem zip_no_hint : typeLookup (.type "zip") "__length_hint__" = pure none := am_miss_of_fast (by decide +kernel)
theorem zip_extend {R : Result → Shared → Prop} (S : ZipSep2 z TI TO i1 i2 fp1 fp2) (D1 : Draws prog w A.in1.in1 i1 fp1 n1 P1 St1) (D2 : Draws prog w A.in1.in1 i2 fp2 n2 P2 St2) (L : Addr) (hL1 : L ∉ fp1) (hL2 : L ∉ fp2) (hLz : L ≠ z) (hLI : L ≠ TI) (hLO : L ≠ TO) (hn : min n1 n2 ≤ sizeLine) (res : Value) (N : Nat) (c₀ : Nat)
    (hz : IsZip s.heap z TI TO .none) (hTO : ∃ a1 a2, IsTupOf2 s.heap TO a1 a2) (hTI : IsTupOf2 s.heap TI (.ref i1) (.ref i2)) (hTW : TI ∉ [L, z, TO, i1, i2]) (st1 : St1 0 s.heap) (st2 : St2 0 s.heap) (hN : N ≤ s.heap.objs.size) (hlt : ∀ b ∈ [L, z, TO, i1, i2], b < s.heap.objs.size)
    (hS : s.heap.get? L = some { cls := .type "list", data := .seq #[] c₀ })
    (hR : ∀ h' tk acc' c', (∀ b o, b ∉ [L, z, TO, i1, i2] → s.heap.get? b = some o → h'.get? b = some o) → h'.get? L = some { cls := .type "list", dict := none, data := .seq acc' c', slots := #[] } → PairsIn P1 P2 [L, z, TO, i1, i2] N h' acc' (min n1 n2) → R (.ok (.ret res)) { s with heap := h', toks := tk }) :
    wpAny (model prog w) A.in1 (Builtin.List.listExtendWith (.ref L) (.ref z) res)
      (fun fin s' => match fin with | .done f => R (.ok f) s' | .again c' => c'.quiet = true ∧ codeAny (model prog w) A c' R s') (fun e s' => R (.error e) s') s := by
  have hTy : s.TypeIs (.ref z) "zip" := ⟨_, hz, rfl⟩
  unfold Builtin.List.listExtendWith
  refine wpAny_bind (wpAny_typeOf (T := "zip") hTy ?_)
  have h1 : Builtin.List.listSameRef (.ref L) (.ref z) = false := by simp [Builtin.List.listSameRef, hLz]
  simp only [h1, show (Value.type "zip" == Value.type "list") = false from by decide, show (Value.type "zip" == Value.type "tuple") = false from by decide, Bool.or_false, Bool.false_eq_true, if_false]
  refine wpAny_bind (wpAny_pyIter_zip hz ?_)
  refine wpAny_bind (wpAny_holding ?_)
  unfold Builtin.List.listLengthHint
  refine wpAny_bind (wpAny_specialOf hTy zip_no_len ?_)
  show wpAny _ A.in1 (specialOf (Value.ref z) (Str.ofString "__length_hint__") >>= _) _ _ _
  refine wpAny_bind (wpAny_specialOf hTy zip_no_hint ?_)
  refine wpAny_pure ?_
  show wpAny _ A.in1 (rule "list.extend.makes-room" >>= fun _ => Builtin.List.listTouch (.ref L) >>= fun _ =>
    again (.builtin "list.extend.loop" ⟨[.ref L, .ref z, res], []⟩)) _ _ _
  refine wpAny_bind (wpAny_rule ?_)
  refine wpAny_bind ?_
  show wpAny _ A.in1 (updateSeq L (·.push .none) >>= fun _ => updateSeq L (·.pop)) _ _ _
  refine wpAny_bind (wpAny_updateSeq hS rfl ?_)
  have hS₂ := Heap.get?_update_self (Obj.mapSeq (·.push Value.none)) hS rfl
  refine wpAny_updateSeq (hz := by seq_fits) hS₂ rfl ?_
  have hS₃ := Heap.get?_update_self (Obj.mapSeq (·.pop)) hS₂ rfl
  have oth : ∀ b o, b ≠ L → s.heap.get? b = some o → ((s.heap.update L (Obj.mapSeq (·.push Value.none))).update L (Obj.mapSeq (·.pop))).get? b = some o :=
    fun b o hb e => (Heap.get?_update_other _ _ (Ne.symm hb)).trans ((Heap.get?_update_other _ _ (Ne.symm hb)).trans e)
  have hsz : ((s.heap.update L (Obj.mapSeq (·.push Value.none))).update L (Obj.mapSeq (·.pop))).objs.size = s.heap.objs.size := by
    rw [(Heap.SameBut.update ..).1, (Heap.SameBut.update ..).1]
  obtain ⟨a1, a2, hTO⟩ := hTO
  refine wpAny_pure ⟨plainId_quiet F.plain_extend_loop _, zip_fill S D1 D2 L hL1 hL2 hLz hLI hLO hn res N (min n1 n2) 0 _ _ _ (by omega) (Nat.zero_le _) (.inl ⟨rfl, oth z _ (Ne.symm hLz) hz, a1, a2, oth TO _ (Ne.symm hLO) hTO⟩) (oth TI _ (Ne.symm hLI) hTI) hTW
    (D1.frame _ _ _ st1 fun b hb o e => oth b o (fun q => hL1 (q ▸ hb)) e) (D2.frame _ _ _ st2 fun b hb o e => oth b o (fun q => hL2 (q ▸ hb)) e) (by show N ≤ _; rw [hsz]; exact hN) hS₃ ⟨rfl, [], rfl, List.nodup_nil, fun j a h => by simp at h⟩ (fun b hb => by show b < _; rw [hsz]; exact hlt b hb) fun h' tk acc' c' k2 l2 p2 => ?_⟩
  exact hR h' tk acc' c' (fun b o hb e => k2 b o hb (oth b o (fun q => hb (by simp [q])) e)) l2 p2
theorem zip_list_call {Q : Value → Shared → Prop} (S : ZipSep2 z TI TO i1 i2 fp1 fp2) (D1 : Draws prog w A.in1.in1.in1 i1 fp1 n1 P1 St1) (D2 : Draws prog w A.in1.in1.in1 i2 fp2 n2 P2 St2) (hn : min n1 n2 ≤ sizeLine)
    (hz : IsZip s.heap z TI TO .none) (hTO : ∃ a1 a2, IsTupOf2 s.heap TO a1 a2) (hTI : IsTupOf2 s.heap TI (.ref i1) (.ref i2)) (hTW : TI ∉ [z, TO, i1, i2]) (st1 : St1 0 s.heap) (st2 : St2 0 s.heap) (hlt : ∀ b ∈ [z, TO, i1, i2], b < s.heap.objs.size) (hf1 : ∀ b ∈ fp1, b < s.heap.objs.size) (hf2 : ∀ b ∈ fp2, b < s.heap.objs.size)
    (hQ : ∀ h' tk acc' c', (∀ b o, b ∉ [z, TO, i1, i2] → s.heap.get? b = some o → h'.get? b = some o) → h'.get? s.heap.objs.size = some { cls := .type "list", dict := none, data := .seq acc' c', slots := #[] } → PairsIn P1 P2 [s.heap.objs.size, z, TO, i1, i2] (s.heap.objs.size + 1) h' acc' (min n1 n2) → Q (.ref s.heap.objs.size) { s with heap := h', toks := tk }) :
    wpAny (model prog w) A (call (.type "list") [.ref z]) Q E s := by
  refine callType_codes (Q₁ := fun obj s₁ => obj = .ref s.heap.objs.size ∧ s₁ = { s with heap := s.heap.push { cls := .type "list", data := .seq #[] } }) PySem.F.called_list (PySem.F.typeCall_list_1 _) PySem.F.entry_list_init
    (code_list_new _ ⟨rfl, rfl⟩) fun obj s₁ h₁ => ?_
  obtain ⟨rfl, rfl⟩ := h₁
  have hS : (s.heap.push { cls := .type "list", data := .seq #[] }).get? s.heap.objs.size = some { cls := .type "list", data := .seq #[] } := Heap.get?_push_size _ rfl
  refine ⟨⟨_, hS, rfl⟩, PySem.F.args_list_init_2 _ _, ?_⟩
  show wpAny _ _ (do let old ← Builtin.List.listItems (.ref s.heap.objs.size); Builtin.List.listUpdate (.ref s.heap.objs.size) (fun _ => #[]); letGo old.toList.reverse; Builtin.List.listExtendWith (.ref s.heap.objs.size) (.ref z) .none) _ _ _
  refine wpAny_bind ?_
  unfold Builtin.List.listItems
  refine wpAny_bind (wpAny_seqItems hS rfl (wpAny_pure ?_))
  show wpAny _ _ (updateSeq s.heap.objs.size (fun _ => #[]) >>= fun _ => letGo (#[] : Array Value).toList.reverse >>= fun _ => Builtin.List.listExtendWith (.ref s.heap.objs.size) (.ref z) .none) _ _ _
  refine wpAny_bind (wpAny_updateSeq hS rfl ?_)
  have hS₂ := Heap.get?_update_self (Obj.mapSeq (fun _ => (#[] : Array Value))) hS rfl
  have oth : ∀ b o, b ≠ s.heap.objs.size → s.heap.get? b = some o → ((s.heap.push { cls := .type "list", data := .seq #[] }).update s.heap.objs.size (Obj.mapSeq (fun _ => (#[] : Array Value)))).get? b = some o :=
    fun b o hb e => (Heap.get?_update_other _ _ (Ne.symm hb)).trans (Heap.get?_push_of_some _ e)
  have hszU : ((s.heap.push { cls := .type "list", data := .seq #[] }).update s.heap.objs.size (Obj.mapSeq (fun _ => (#[] : Array Value)))).objs.size = s.heap.objs.size + 1 := by
    rw [(Heap.SameBut.update ..).1, Heap.size_push]
  refine wpAny_bind (wpAny_letGo ?_)
  have nz : ∀ b, b < s.heap.objs.size → b ≠ s.heap.objs.size := fun b hb => Nat.ne_of_lt hb
  have mm : ∀ b ∈ [z, TO, i1, i2], b ≠ s.heap.objs.size := fun b hb => nz b (hlt b hb)
  refine zip_extend (A := A.in1) S D1 D2 s.heap.objs.size (fun h => absurd (hf1 _ h) (Nat.lt_irrefl _)) (fun h => absurd (hf2 _ h) (Nat.lt_irrefl _)) (Ne.symm (mm z (by simp))) (Ne.symm (nz TI (Heap.lt_size hTI))) (Ne.symm (mm TO (by simp))) hn .none (s.heap.objs.size + 1) _
    (oth z _ (mm z (by simp)) hz) (let ⟨a1, a2, h⟩ := hTO; ⟨a1, a2, oth TO _ (mm TO (by simp)) h⟩) (oth TI _ (nz TI (Heap.lt_size hTI)) hTI) (fun h => ?_) (D1.frame _ _ _ st1 fun b hb o e => oth b o (nz b (hf1 b hb)) e) (D2.frame _ _ _ st2 fun b hb o e => oth b o (nz b (hf2 b hb)) e)
    (by show _ ≤ _; rw [hszU]; exact Nat.le_refl _) (fun b hb => ?_) hS₂ fun h' tk acc' c' k2 l2 p2 => ?_
  · rcases List.mem_cons.mp h with h | h
    · exact nz TI (Heap.lt_size hTI) h
    · exact hTW h
  · show b < _
    rw [hszU]
    rcases List.mem_cons.mp hb with h | h
    · rw [h]; exact Nat.lt_succ_self _
    · exact Nat.lt_succ_of_lt (hlt b h)
  · refine ⟨rfl, hQ h' tk acc' c' (fun b o hb e => ?_) l2 p2⟩
    exact k2 b o (fun h => by
      rcases List.mem_cons.mp h with h | h
      · exact nz b (Heap.lt_size e) h
      · exact hb h) (oth b o (nz b (Heap.lt_size e)) e)
end
end PySem

set_option maxHeartbeats 4000000
namespace DL
open PySem PySem.Spec PyProof.Rows L2
section
variable {X : Cx} {pins : List (Addr × Obj)} {σ : L2.St} {H : Hp} {s : Shared}
/-- a thing that is there is tracked from now on -/
structure Late (X : Cx) (pins : List (Addr × Obj)) (a : Addr) : Prop where
  h0 : X.s_0.heap.objs.size ≤ a
  hl : a ≠ X.env.locals
  hc : ∀ x c, X.env.cells.lookup x = some c → c ≠ a
  hp : ∀ p ∈ X.pn ++ pins, p.1 ≠ a
theorem inv_late (I : Inv X pins σ H s) {a : Addr} (h : s.heap.objs.size ≤ a) : Late X pins a where
  h0 := Nat.le_trans I.sz h
  hl := Nat.ne_of_gt (Nat.lt_of_lt_of_le I.lt h)
  hc := fun x c e z => by
    obtain ⟨v, q⟩ := I.cell x c e
    exact absurd (Nat.lt_of_lt_of_le q.lt (by rw [z]; exact h)) (Nat.lt_irrefl _)
  hp := fun p hp z => absurd (Nat.lt_of_lt_of_le (Heap.lt_size (I.pin p hp).1) (by rw [z]; exact h)) (Nat.lt_irrefl _)
theorem inv_track (I : Inv X pins σ H s) {a : Addr} {o : HO} (L : Late X pins a) (hn : H a = none) (new : ObjOk X.prog X.w (upd H a o) s.heap a o) : Inv X pins σ (upd H a o) s where
  ok := I.ok
  os := I.os
  bare := I.bare
  base := ⟨I.base.keep, I.base.slot, fun b ob q n hx => by
      rw [upd_ne (fun z : b = a => absurd (Nat.lt_of_lt_of_le (Heap.lt_size q) (by rw [z]; exact L.h0)) (Nat.lt_irrefl _))]
      exact I.base.free b ob q n hx, I.base.there, fun b xs q => by
      rw [upd_ne (ne_of_none (I.base.tups b xs q) hn)]; exact I.base.tups b xs q, fun b ob u q => by
      rw [upd_ne (ne_of_none (I.base.frzs b ob u q) hn)]; exact I.base.frzs b ob u q, fun b ps q => by
      obtain ⟨m, e⟩ := I.base.tbls b ps q
      exact ⟨m, by rw [upd_ne (ne_of_none e hn)]; exact e⟩⟩
  loc := I.loc
  cell := I.cell
  free := by rw [upd_ne (Ne.symm L.hl)]; exact I.free
  freeC := fun x c e => by rw [upd_ne (L.hc x c e)]; exact I.freeC x c e
  pin := fun p hp => by
    obtain ⟨a1, a2, a3⟩ := I.pin p hp
    exact ⟨a1, by rw [upd_ne (L.hp p hp)]; exact a2, a3⟩
  hok := fun b u e => by
    by_cases hb : b = a
    · subst hb; rw [upd_same] at e; cases e; exact new
    · rw [upd_ne hb] at e
      exact (I.hok b u e).stay (fun c v _ q => q) (fun c q => by rw [upd_ne (ne_of_none q hn)]; exact q) fun c xs q => by rw [upd_ne (ne_of_none q hn)]; exact q
  len := I.len
/-- pairs laid, one by one -/
def layP : Hp → List Addr → List (V × V) → Hp
  | H, T :: Ts, p :: ps => layP (upd H T (.tup [p.1, p.2])) Ts ps
  | H, _, _ => H
theorem layP_ne : ∀ {Ts : List Addr} {ps : List (V × V)} {H : Hp} {b : Addr}, b ∉ Ts → layP H Ts ps b = H b
  | [], _, _, _, _ => by unfold layP; rfl
  | T :: Ts, [], _, _, _ => by unfold layP; rfl
  | T :: Ts, p :: ps, H, b, h => by
    unfold layP
    rw [layP_ne (fun z => h (by simp [z])), upd_ne (fun z => h (by simp [z]))]
theorem inv_layP : ∀ {Ts : List Addr} {ps : List (V × V)} {H : Hp}, Inv X pins σ H s → (∀ T ∈ Ts, Late X pins T ∧ H T = none) → Ts.Nodup →
    (∀ (j : Nat) T p, Ts[j]? = some T → ps[j]? = some p → ∃ u v, RelV p.1 u ∧ RelV p.2 v ∧ s.heap.get? T = some { cls := .type "tuple", data := .seq #[u, v] }) → Inv X pins σ (layP H Ts ps) s
  | [], _, _, I, _, _, _ => by unfold layP; exact I
  | T :: Ts, [], _, I, _, _, _ => by unfold layP; exact I
  | T :: Ts, p :: ps, H, I, hT, nd, ho => by
    unfold layP
    obtain ⟨u, v, r1, r2, e⟩ := ho 0 T p rfl rfl
    have nd' := List.nodup_cons.mp nd
    have I1 : Inv X pins σ (upd H T (.tup [p.1, p.2])) s := inv_track I (hT T (by simp)).1 (hT T (by simp)).2 ⟨by show 2 ≤ sizeLine; decide, [u, v], .cons r1 (.cons r2 .nil), ⟨_, e, rfl, _, rfl⟩⟩
    refine inv_layP I1 (fun T' h' => ⟨(hT T' (by simp [h'])).1, ?_⟩) nd'.2 fun j T' p' h1 h2 => ho (j + 1) T' p' (by simpa using h1) (by simpa using h2)
    rw [upd_ne (fun z : T' = T => nd'.1 (by rw [← z]; exact h'))]
    exact (hT T' (by simp [h'])).2
/-- what is walked: a list or a tuple -/
def SqA (K : PySem.W.Frag) (H : Hp) (a : Addr) (xs : List V) : Prop := SqL K H a xs ∨ SqT K H a xs
def tLzip (K : PySem.W.Frag) (ta : TA) : TE := fun σ H Q => ta σ H fun vs H1 => ∃ a b xs ys, vs = [.ref a, .ref b] ∧ SqA K H1 a xs ∧ SqA K H1 b ys ∧
  ∀ (L : Addr) (Ts : List Addr), H1 L = none → (∀ T ∈ Ts, H1 T = none) → Ts.Nodup → L ∉ Ts → Ts.length = (xs.zip ys).length → Q (.ref L) (upd (layP H1 Ts (xs.zip ys)) L (.lst (Ts.map V.ref)))
/-- how a sequence is drawn from -/
theorem sq_begins {K : PySem.W.Frag} (I : Inv X pins σ H s) {a : Addr} {xs : List V} (h : SqA X.K H a xs) : ∃ (its : List Value) (o : Obj) (OK : Heap → Prop), Vals xs its ∧ xs.length ≤ sizeLine ∧ Begins (.ref a) o OK ∧ OK s.heap ∧ a < s.heap.objs.size ∧
    ∀ (A : Around) (it : Addr), A.handled = none → it ≠ a → ∃ St : Nat → Heap → Prop, Draws X.prog X.w A it [it, a] its.length (fun i v => its[i]? = some v) St ∧ ∀ h : Heap, OK h → h.get? it = some o → St 0 h := by
  rcases h with h | h
  · obtain ⟨its, rv, p, hz⟩ := I.list h
    refine ⟨its, _, _, rv, hz, begins_list a its.toArray, p.isList, ?_, fun A it hh hne => ⟨fun i h => h.IsListIter it a i ∧ h.IsList a its.toArray, ?_, ?_⟩⟩
    · obtain ⟨o, n, e, _⟩ := p
      exact Heap.lt_size e
    · have D := Draws.list (prog := X.prog) (w := X.w) (A := A) hh it a (Ne.symm hne) its.toArray
      simpa using D
    · exact fun h hl e => ⟨⟨_, e, rfl, rfl⟩, hl⟩
  · obtain ⟨its, rv, p, hz⟩ := I.tuple h
    refine ⟨its, _, _, rv, hz, begins_tuple a its.toArray, p, ?_, fun A it hh hne => ⟨fun i h => h.IsTupleIter it a i ∧ h.IsTuple a its.toArray, ?_, ?_⟩⟩
    · obtain ⟨o, e, _⟩ := p
      exact Heap.lt_size e
    · have D := Draws.tuple (prog := X.prog) (w := X.w) (A := A) hh it a (Ne.symm hne) its.toArray
      simpa using D
    · exact fun h hl e => ⟨⟨_, e, rfl, rfl⟩, hl⟩
theorem zip_nth {xs ys : List V} {its jts : List Value} (r1 : Vals xs its) (r2 : Vals ys jts) {j : Nat} {p : V × V} {u v : Value} (h : (xs.zip ys)[j]? = some p) (h1 : its[j]? = some u) (h2 : jts[j]? = some v) : RelV p.1 u ∧ RelV p.2 v := by
  rw [List.getElem?_zip_eq_some] at h
  obtain ⟨u', e1, q1⟩ := r1.get h.1
  obtain ⟨v', e2, q2⟩ := r2.get h.2
  rw [h1] at e1
  rw [h2] at e2
  cases e1
  cases e2
  exact ⟨q1, q2⟩
theorem pe_lzip {e e2 : Expr} {ta : TA} {p1 p pos pos1 : Pos} (hc : X.calm = true) (hgl : Gl X "list") (hml : X.mg "list" = none) (hgz : Gl X "zip") (hmz : X.mg "zip" = none) (ha : PA X [e, e2] ta)
    (hs : starEach [e, e2] X.env = (false, eval e X.env) :: starEach [e2] X.env := by rfl) (hpl : (backTo pos (starEach [e2] X.env)).any (·.1) = false := by rfl)
    (hs1 : starEach [.Call (.Name "zip" p) [e, e2] [] pos] X.env = [(false, eval (.Call (.Name "zip" p) [e, e2] [] pos) X.env)] := by rfl) :
    PE X (.Call (.Name "list" p1) [.Call (.Name "zip" p) [e, e2] [] pos] [] pos1) (tLzip X.K ta) := by
  refine ⟨fun pins s σ H Q I h => ?_⟩
  refine Call_ (ld_blt I hgl hml (show bootBuiltins "list" = some (.type "list") by decide +kernel) (PyProof.Rows.callWith_type1 ?_ hs1 rfl))
  rw [hs1]
  show wpAny _ _ (spliced [(false, eval (.Call (.Name "zip" p) [e, e2] [] pos) X.env)]) _ _ s
  refine Calls.spliced_cons ?_
  refine Call_ (ld_blt I hgz hmz PyProof.Rows.boot_zip (PyProof.Rows.callWith_type1 (thn (ha.run pos pins s σ H _ I h) fun us s1 ⟨vs, H1, I1, r1, q1⟩ => ?_) hs hpl))
  obtain ⟨a, b, xs, ys, ex, hxs, hys, q⟩ := q1
  subst ex
  cases r1 with
  | cons ra rr =>
    cases rr with
    | cons rb rn =>
      cases rn
      cases ra
      cases rb
      obtain ⟨its, o1, OK1, v1, z1, B1, ok1, la, dr1⟩ := sq_begins (K := X.K) I1 hxs
      obtain ⟨jts, o2, OK2, v2, z2, B2, ok2, lb, dr2⟩ := sq_begins (K := X.K) I1 hys
      refine zip_begins2 B1 B2 ok1 ok2 fun h' hz hTI hTO g1 g2 hsz hk => ?_
      refine Calls.spliced_nil ?_
      have hh := I1.ok.hd hc
      obtain ⟨St1, D1, st1⟩ := dr1 X.A.in1.in1.in1 s1.heap.objs.size hh (Nat.ne_of_gt la)
      obtain ⟨St2, D2, st2⟩ := dr2 X.A.in1.in1.in1 (s1.heap.objs.size + 1) hh (Nat.ne_of_gt (Nat.lt_succ_of_lt lb))
      have S := zip_sep2 (N := s1.heap.objs.size) (fp1 := [a]) (fp2 := [b]) (fun c hc => by simp at hc; rw [hc]; exact la) (fun c hc => by simp at hc; rw [hc]; exact lb)
      have l1 := v1.length
      have l2 := v2.length
      have hlt : ∀ k : Nat, k < 5 → s1.heap.objs.size + k < h'.objs.size := fun k hk => by rw [hsz]; exact Nat.add_lt_add_left hk _
      refine zip_list_call (s := { s1 with heap := h' }) S D1 D2 (by omega) hz ⟨_, _, hTO⟩ hTI ?_ (st1 h' (B1.keeps _ _ ok1 hk) g1) (st2 h' (B2.keeps _ _ ok2 hk) g2) ?_ ?_ ?_ fun h2 tk acc c k2 hL hacc => ?_
      · simp only [List.mem_cons, List.not_mem_nil, or_false, not_or]
        exact ⟨S.TIz, S.TITO, S.TIi1, S.TIi2⟩
      · intro c hc
        simp only [List.mem_cons, List.not_mem_nil, or_false] at hc
        rcases hc with rfl | rfl | rfl | rfl
        · exact hlt 4 (by decide)
        · exact hlt 3 (by decide)
        · exact hlt 0 (by decide)
        · exact hlt 1 (by decide)
      · intro c hc
        simp only [List.mem_cons, List.not_mem_nil, or_false] at hc
        rcases hc with rfl | rfl
        · exact hlt 0 (by decide)
        · rw [hsz]; exact Nat.lt_add_right 5 la
      · intro c hc
        simp only [List.mem_cons, List.not_mem_nil, or_false] at hc
        rcases hc with rfl | rfl
        · exact hlt 1 (by decide)
        · rw [hsz]; exact Nat.lt_add_right 5 lb
      · obtain ⟨q1, Ts, q2, q0, q3⟩ := hacc
        have hL0 : s1.heap.objs.size ≤ h'.objs.size := by rw [hsz]; exact Nat.le_add_right _ _
        have old : ∀ c o, s1.heap.get? c = some o → h2.get? c = some o := fun c o e => k2 c o (fun hm => by
          have := Heap.lt_size e
          simp only [List.mem_cons, List.not_mem_nil, or_false] at hm
          rcases hm with rfl | rfl | rfl | rfl
          · exact absurd this (Nat.not_lt.mpr (Nat.le_add_right _ _))
          · exact absurd this (Nat.not_lt.mpr (Nat.le_add_right _ _))
          · exact absurd this (Nat.lt_irrefl _)
          · exact absurd this (Nat.not_lt.mpr (Nat.le_add_right _ _))) (hk c o e)
        have I2 : Inv X pins σ H1 { s1 with heap := h2, toks := tk } := I1.kept old
        have fr : ∀ c, s1.heap.objs.size ≤ c → H1 c = none := fun c hc => I1.hok.fresh hc
        have lenT : Ts.length = (xs.zip ys).length := by
          have := congrArg List.length q2
          simp at this
          simp
          omega
        have tn : ∀ T ∈ Ts, h'.objs.size + 1 ≤ T ∧ T ∉ [h'.objs.size, s1.heap.objs.size + 4, s1.heap.objs.size + 3, s1.heap.objs.size, s1.heap.objs.size + 1] := fun T hT => by
          obtain ⟨j, hj⟩ := List.getElem?_of_mem hT
          exact (q3 j T hj).1
        have tn' : ∀ T ∈ Ts, s1.heap.objs.size ≤ T := fun T hT => Nat.le_trans hL0 (Nat.le_trans (Nat.le_succ _) (tn T hT).1)
        have nL : h'.objs.size ∉ Ts := fun hT => absurd (tn _ hT).1 (Nat.not_succ_le_self _)
        have I3 : Inv X pins σ (layP H1 Ts (xs.zip ys)) { s1 with heap := h2, toks := tk } := inv_layP I2 (fun T hT => ⟨inv_late I1 (tn' T hT), fr T (tn' T hT)⟩) q0 fun j T p h1 h3 => by
          obtain ⟨_, x, y, e1, e2, e3⟩ := q3 j T h1
          exact ⟨x, y, (zip_nth v1 v2 h3 e1 e2).1, (zip_nth v1 v2 h3 e1 e2).2, e3⟩
        have I4 : Inv X pins σ (upd (layP H1 Ts (xs.zip ys)) h'.objs.size (.lst (Ts.map V.ref))) { s1 with heap := h2, toks := tk } := inv_track I3 (inv_late I1 hL0) (by rw [layP_ne nL]; exact fr _ hL0) ⟨by rw [List.length_map, lenT, List.length_zip]; omega, acc.toList, c, by
            rw [q2]
            clear q0 q1 q2 q3 I2 I3 lenT tn tn' nL
            induction Ts with
            | nil => exact .nil
            | cons T Ts ih => exact .cons rfl ih, by simpa using hL⟩
        exact ⟨V.ref h'.objs.size, _, I4, rfl, q _ Ts (fr _ hL0) (fun T hT => fr T (tn' T hT)) q0 nL lenT⟩
end
section
variable {X : Cx} {g : G} {E : XK}
/-! ### .. by data -/
theorem layP_den : ∀ {Ts : List Addr} {ps qs : List P} {xs ys : List V} {w : Wd}, Ok g w → DenL g w.F w.H ps xs → DenL g w.F w.H qs ys → (∀ T ∈ Ts, w.H T = none) → Ts.Nodup → Ts.length = (xs.zip ys).length →
    ∃ w', w'.H = layP w.H Ts (xs.zip ys) ∧ w'.M = w.M ∧ Le w w' ∧ Ok g w' ∧ DenL g w'.F w'.H ((ps.zip qs).map fun x => .tup [x.1, x.2]) (Ts.map V.ref)
  | [], ps, qs, xs, ys, w, k, h1, h2, _, _, hl => by
    refine ⟨w, by unfold layP; rfl, rfl, Le.refl w, k, ?_⟩
    have : (ps.zip qs) = [] := by
      have e1 := denL_len h1
      have e2 := denL_len h2
      have hl' : (xs.zip ys).length = 0 := hl.symm
      rw [List.length_zip] at hl'
      apply List.eq_nil_of_length_eq_zero
      rw [List.length_zip]
      omega
    rw [this]
    unfold DenL
    rfl
  | T :: Ts, [], qs, xs, ys, w, k, h1, h2, _, _, hl => by
    unfold DenL at h1
    subst h1
    simp at hl
  | T :: Ts, p :: ps, [], xs, ys, w, k, h1, h2, _, _, hl => by
    unfold DenL at h2
    subst h2
    simp at hl
  | T :: Ts, p :: ps, q :: qs, xs, ys, w, k, h1, h2, hT, nd, hl => by
    unfold DenL at h1 h2
    obtain ⟨x, xs', rfl, a1, a2⟩ := h1
    obtain ⟨y, ys', rfl, b1, b2⟩ := h2
    have nd' := List.nodup_cons.mp nd
    have hTn := hT T (by simp)
    have le := lay_le (o := .tup [x, y]) k hTn
    have ok := lay_ok (o := .tup [x, y]) k hTn
    have kp := le.kp k
    obtain ⟨w', e1, e2, l2, k2, d2⟩ := layP_den (Ts := Ts) (w := w.lay T (.tup [x, y])) ok (denL_mono kp _ _ a2) (denL_mono kp _ _ b2) (fun T' h' => by
      show upd w.H T _ T' = none
      rw [upd_ne (fun z : T' = T => nd'.1 (by rw [← z]; exact h'))]
      exact hT T' (by simp [h'])) nd'.2 (by simpa using hl)
    refine ⟨w', e1, e2, le.trans l2, k2, ?_⟩
    show DenL g w'.F w'.H (.tup [p, q] :: (ps.zip qs).map fun x => .tup [x.1, x.2]) (V.ref T :: Ts.map V.ref)
    unfold DenL
    exact ⟨_, _, rfl, l2.den ok (new_tup k hTn (by unfold DenL DenL DenL; exact ⟨x, [y], rfl, a1, y, [], rfl, b1, rfl⟩)), d2⟩
def seqP : P → Option (List P)
  | .lst xs => some xs
  | .tup xs => some xs
  | _ => none
def lzipF : List P → Option P
  | [a, b] => match seqP a, seqP b with
    | some xs, some ys => some (.lst ((xs.zip ys).map fun x => .tup [x.1, x.2]))
    | _, _ => none
  | _ => none
theorem seq_at {w : Wd} {p : P} {ps : List P} {v : V} (e : seqP p = some ps) (h : Den g w.F w.H p v) : ∃ a xs, v = .ref a ∧ SqA g.K w.H a xs ∧ DenL g w.F w.H ps xs := by
  cases p with
  | lst qs =>
    have e1 : qs = ps := Option.some.inj e
    subst e1
    obtain ⟨a, xs, e, r, q⟩ := lst_at h
    exact ⟨a, xs, e, .inl r, q⟩
  | tup qs =>
    have e1 : qs = ps := Option.some.inj e
    subst e1
    obtain ⟨a, xs, e, r, q⟩ := tup_at h
    exact ⟨a, xs, e, .inr r, q⟩
  | _ => cases e
theorem d_lzip {e : Expr} {a : MA} (h : PE X e (tLzip X.K (tMA g E a))) (hK : X.K = g.K := by rfl) : PE X e (tM g E (eCallB (liftn lzipF) a)) := PE.mono h fun σ H Q ⟨ρ, h⟩ => tMA_imp (At.bindA h) fun vs H1 ⟨ds, hl, h1⟩ => by
  obtain ⟨w, e1, ok, hd, r, M', hk, hp⟩ := at_zip hl h1
  subst e1
  obtain ⟨ps, c, rfl, hf, rfl, rfl⟩ := liftn_eq hk
  unfold lzipF at hf
  split at hf
  · rename_i p q
    split at hf
    · rename_i xs ys hx hy
      cases hf
      cases hd with
      | cons d1 dr =>
        cases dr with
        | cons d2 dn =>
          cases dn
          obtain ⟨b1, us, rfl, s1, e1⟩ := seq_at hx d1
          obtain ⟨b2, vs, rfl, s2, e2⟩ := seq_at hy d2
          rw [hK]
          refine ⟨b1, b2, us, vs, rfl, s1, s2, fun L Ts hL hT nd nL lt => ?_⟩
          obtain ⟨w', a1, a2, l2, k2, d3⟩ := layP_den ok e1 e2 hT nd lt
          have hL' : w'.H L = none := by rw [a1, layP_ne nL]; exact hL
          rw [← a1]
          exact hp (w'.lay L (.lst (Ts.map V.ref))) a2 (l2.trans (lay_le k2 hL')) (lay_ok k2 hL') _ (new_lst k2 hL' d3)
    · cases hf
  · cases hf
end
end DL

set_option maxHeartbeats 4000000
namespace DL
open PySem PySem.Spec PyProof.Rows L2
section
variable {X : Cx} {g : G} {E : XK}
/-! ### list(x), tuple(x) -/
/-- a new frozen list, tuple of the items -/
def listF : On := fun ds M => match ds with
  | [d] => match itemsD d M with
    | some xs => match allP xs with
      | some ps => some (.ok (.p (.lst ps)), M)
      | none => none
    | none => none
  | _ => none
def itemsL (d : D) (M : Mem) : Option (List D) := match d with
  | .own n => match M[n]? with
    | some (.lst xs) => some xs
    | some (.scr xs) => some xs
    | _ => none
  | _ => itemsD d M
def tupleF : On := fun ds M => match ds with
  | [d] => match itemsL d M with
    | some xs => match allP xs with
      | some ps => some (.ok (.p (.tup ps)), M)
      | none => none
    | none => none
  | _ => none
/-- a new list of one's own -/
def listO : On := fun ds M => match ds with
  | [d] => match itemsD d M with
    | some xs => some (.ok (.own M.length), M ++ [.lst xs])
    | none => none
  | _ => none
theorem cc_list (hK : X.K = g.K := by rfl) : CallR X (.type "list") (rDn g E listF) := Svn.op (fun w ds xs Q k h go => by
  unfold listF at go
  split at go
  · rename_i d
    cases h with
    | cons h1 h2 =>
      cases h2
      split at go
      · rename_i ys hi
        split at go
        · rename_i ps hp
          obtain ⟨a, zs, rfl, hq, hz⟩ := items_at k h1 hi
          exact ⟨a, zs, rfl, by rw [hK]; exact hq, (then_of go).lst k (denL_of hp hz)⟩
        · exact (go_none go).elim
      · exact (go_none go).elim
  · exact (go_none go).elim) call_list_of
theorem cc_listO (hK : X.K = g.K := by rfl) : CallR X (.type "list") (rDn g E listO) := Svn.op (fun w ds xs Q k h go => by
  unfold listO at go
  split at go
  · rename_i d
    cases h with
    | cons h1 h2 =>
      cases h2
      split at go
      · rename_i ys hi
        obtain ⟨a, zs, rfl, hq, hz⟩ := items_at k h1 hi
        exact ⟨a, zs, rfl, by rw [hK]; exact hq, go_own go k hz⟩
      · exact (go_none go).elim
  · exact (go_none go).elim) call_list_of
theorem cc_tuple (hK : X.K = g.K := by rfl) : CallR X (.type "tuple") (rDn g E tupleF) := Svn.op (fun w ds xs Q k h go => by
  unfold tupleF at go
  split at go
  · rename_i d
    cases h with
    | cons h1 h2 =>
      cases h2
      split at go
      · rename_i ys hi
        split at go
        · rename_i ps hp
          have t := then_of go
          cases d with
          | p x =>
            cases x with
            | tup qs =>
              have e : qs.map .p = ys := Option.some.inj hi
              subst e
              rw [allP_map] at hp
              have e2 := Option.some.inj hp
              subst e2
              have h1' : Den g w.F w.H (.tup qs) _ := h1
              obtain ⟨a, zs, rfl, hq, hz⟩ := tup_at h1'
              exact ⟨a, zs, rfl, .inr ⟨by rw [hK]; exact hq, t.here k h1'⟩⟩
            | lst qs =>
              have e : qs.map .p = ys := Option.some.inj hi
              subst e
              rw [allP_map] at hp
              have e2 := Option.some.inj hp
              subst e2
              have h1' : Den g w.F w.H (.lst qs) _ := h1
              obtain ⟨a, zs, rfl, hq, hz⟩ := lst_at h1'
              exact ⟨a, zs, rfl, .inl ⟨by rw [hK]; exact hq, t.tup k hz⟩⟩
            | _ => cases hi
          | own n =>
            unfold itemsL at hi
            simp only at hi
            split at hi
            · rename_i us hm
              have e := Option.some.inj hi
              subst e
              obtain ⟨a, zs, rfl, e1, e2, _⟩ := own_lst k h1 hm
              exact ⟨a, zs, rfl, .inl ⟨SqL.of e1, t.tup k (denL_of hp e2)⟩⟩
            · rename_i us hm
              have e := Option.some.inj hi
              subst e
              obtain ⟨a, zs, rfl, e1, e2⟩ := own_scr k h1 hm
              exact ⟨a, zs, rfl, .inl ⟨.inl e1, t.tup k (denL_of hp e2)⟩⟩
            · cases hi
        · exact (go_none go).elim
      · exact (go_none go).elim
  · exact (go_none go).elim) call_tuple_of
/-! ### sorted -/
def sortI (ns : List Int) : List Int := ns.mergeSort (fun a b => decide (a ≤ b))
theorem sortI_perm (ns : List Int) : (sortI ns).Perm ns := List.mergeSort_perm ns _
theorem sortI_sorted (ns : List Int) : (sortI ns).Pairwise (· ≤ ·) := by
  have h := List.pairwise_mergeSort (le := fun (a b : Int) => decide (a ≤ b)) (fun a b c h1 h2 => by simp at *; omega) (fun a b => by simp; omega) ns
  exact h.imp fun h => by simpa using h
theorem sort_one {ns ms : List Int} (p : ms.Perm ns) (s : ms.Pairwise (· ≤ ·)) : ms = sortI ns :=
  List.Perm.eq_of_pairwise (le := fun (a b : Int) => a ≤ b) (fun a b _ _ h1 h2 => by omega) s (sortI_sorted ns) (p.trans (sortI_perm ns).symm)
theorem ints_len {ns : List Int} {xs : List P} (h : intsP xs = some ns) : xs.length = ns.length := by rw [ints_eq h]; simp
/-- whole numbers behind a list of one's own or a frozen one; the keys of a dict -/
def intsOf (d : D) (M : Mem) : Option (List Int) := match d with
  | .p (.lst xs) => intsP xs
  | .own n => match M[n]? with
    | some (.lst xs) => (allP xs).bind intsP
    | _ => none
  | _ => none
def keysI : List Key → Option (List Int)
  | [] => some []
  | .inl i :: r => (keysI r).map (i :: ·)
  | .inr _ :: _ => none
theorem keysI_eq : ∀ {ks : List Key} {ns : List Int}, keysI ks = some ns → ks = ns.map Sum.inl
  | [], ns, h => by simp [keysI] at h; subst h; rfl
  | .inl i :: r, ns, h => by
    unfold keysI at h
    cases hr : keysI r with
    | none => rw [hr] at h; cases h
    | some ms =>
      rw [hr] at h
      have e : i :: ms = ns := Option.some.inj h
      subst e
      rw [keysI_eq hr]; rfl
  | .inr _ :: _, ns, h => by cases h
def sortedF : On := fun ds M => match ds with
  | [d] => match intsOf d M with
    | some ns => some (.ok (.p (.lst ((sortI ns).map .int))), M)
    | none => match d with
      | .own n => match M[n]? with
        | some (.dic ks _) => match keysI ks with
          | some ns => if ns.length < 64 then some (.ok (.p (.lst ((sortI ns).map .int))), M) else none
          | none => none
        | _ => none
      | _ => none
  | _ => none
theorem intsOf_at {w : Wd} (k : Ok g w) {d : D} {v : V} {ns : List Int} (h : DenD g w d v) (e : intsOf d w.M = some ns) : ∃ a, v = .ref a ∧ SqL g.K w.H a (ns.map V.int) := by
  cases d with
  | p x =>
    cases x with
    | lst xs =>
      have e' : intsP xs = some ns := e
      have e2 := ints_eq e'
      subst e2
      obtain ⟨a, ys, rfl, hq, hd⟩ := lst_at (w := w) (show Den g w.F w.H (.lst _) v from h)
      have := den_ints hd
      subst this
      exact ⟨a, rfl, hq⟩
    | _ => cases e
  | own n =>
    unfold intsOf at e
    simp only at e
    split at e
    · rename_i xs hm
      cases hp : allP xs with
      | none => rw [hp] at e; cases e
      | some ps =>
        rw [hp] at e
        have e' : intsP ps = some ns := e
        have e2 := ints_eq e'
        subst e2
        obtain ⟨a, ys, rfl, h1, h2, _⟩ := own_lst k h hm
        have := den_ints (denL_of hp h2)
        subst this
        exact ⟨a, rfl, SqL.of h1⟩
    · cases e
theorem cc_sorted (hc : X.calm = true) (hK : X.K = g.K := by rfl) : CallR X (.builtin "sorted") (rDn g E sortedF) := Svn.op (fun w ds xs Q k h go => by
  unfold sortedF at go
  split at go
  · rename_i d
    cases h with
    | cons h1 h2 =>
      cases h2
      split at go
      · rename_i ns hi
        obtain ⟨a, rfl, hq⟩ := intsOf_at k h1 hi
        refine .inl ⟨a, ns, rfl, by rw [hK]; exact hq, fun ns' p pm so hp => ?_⟩
        have e := sort_one pm so
        subst e
        exact (then_of go).lst k (ints_den _) p hp
      · split at go
        · rename_i n
          split at go
          · rename_i ks vs hm
            split at go
            · rename_i ns hn
              split at go
              · rename_i hl
                obtain ⟨a, dx, rfl, _, _, ys, e1, e0, e2⟩ := own_at k h1 hm
                have ek := keysI_eq hn
                have hz : (ks.zip ys).map (·.1) = ks := by
                  rw [List.map_fst_zip]
                  omega
                refine .inr ⟨a, _, ns, rfl, .inl e1, by rw [hz]; exact ek, hl, fun ns' p pm so hp => ?_⟩
                have e := sort_one pm so
                subst e
                exact (then_of go).lst k (ints_den _) p hp
              · exact (go_none go).elim
            · exact (go_none go).elim
          · exact (go_none go).elim
        · exact (go_none go).elim
  · exact (go_none go).elim) (CallR.or cr_sortedI (call_sortedDI hc))
/-! ### x[i] -/
def ixD : O2 := fun x y M => match itemsD x M with
  | some xs => match y with
    | .p (.int i) => match atI xs i with
      | some d => some (.ok d, M)
      | none => none
    | _ => none
  | none => match x, y with
    | .p (.str z), .p (.int i) => if z.length ≤ sizeLine then match atI z.cps.toList i with
        | some c => some (.ok (.p (.str ⟨#[c]⟩)), M)
        | none => none
      else none
    | _, _ => none
theorem atI_get {α β : Type} {R : α → β → Prop} {xs : List α} {ys : List β} {i : Int} {x : α} (h : Paired R xs ys) (e : atI xs i = some x) : ∃ y, atI ys i = some y ∧ R x y := by
  unfold atI at e ⊢
  rw [← h.length]
  cases hj : ixN xs.length i with
  | none => rw [hj] at e; cases e
  | some j =>
    rw [hj] at e
    obtain ⟨y, e1, e2⟩ := paired_get h (show xs[j]? = some x from e)
    exact ⟨y, e1, e2⟩
theorem ii_ix (hK : X.K = g.K := by rfl) : IxR X (rD2 g E ixD) := fun value slice pins s σ H x y v u Q I rx ry ⟨w, d, e, hw, k, h1, h2, go⟩ hs => by
  subst hw
  unfold ixD at go
  cases hi : itemsD d w.M with
  | some xs =>
    rw [hi] at go
    simp only at go
    split at go
    · rename_i i
      split at go
      · rename_i c hc
        obtain ⟨a, zs, rfl, hq, hz⟩ := items_at k h1 hi
        have e2 : y = V.int i := h2
        subst e2
        obtain ⟨z, e3, e4⟩ := atI_get hz hc
        obtain ⟨r, M', e5, po⟩ := go
        have q : Q z w.H := post_ok (R := RV g Q) (a := c) k e5 po z e4
        refine ix_seq value slice pins s σ w.H _ _ v u Q I rx ry ?_ hs
        rw [hK]
        rcases hq with hq | hq
        · exact .inl ⟨a, zs, i, z, rfl, rfl, hq, e3, q⟩
        · exact .inr (.inl ⟨a, zs, i, z, rfl, rfl, hq, e3, q⟩)
      · exact (go_none go).elim
    · exact (go_none go).elim
  | none =>
    rw [hi] at go
    simp only at go
    split at go
    · rename_i z i
      split at go
      · rename_i hz
        split at go
        · rename_i c hc
          have e1 : x = V.str z := h1
          have e2 : y = V.int i := h2
          subst e1 e2
          exact ix_seq value slice pins s σ w.H _ _ v u Q I rx ry (.inr (.inr ⟨z, i, c, rfl, rfl, hz, hc, (then_of go).here k rfl⟩)) hs
        · exact (go_none go).elim
      · exact (go_none go).elim
    · exact (go_none go).elim
theorem d_ix {a b : Expr} {ma mb : ME} {pos : Pos} (ha : PE X a (tM g E ma)) (hb : PE X b (tM g E mb)) (hs : PlainIx b) (hK : X.K = g.K := by rfl) : PE X (.Subscript a b pos) (tM g E (eOp ixD ma mb)) :=
  PE.mono (pe_ix (ii_ix hK) ha hb hs) fun σ H Q h => op_two h
/-! ### x[a:b] -/
def cutP {α : Type} (xs : List α) (lo hi : Option Int) : List α := (xs.drop (HT.sIx xs.length 0 lo)).take (HT.sIx xs.length xs.length hi - HT.sIx xs.length 0 lo)
def sliceD (x : D) (lo hi : Option Int) (M : Mem) : Out D := match x with
  | .p (.tup xs) => some (.ok (.p (.tup (cutP xs lo hi))), M)
  | .p (.lst xs) => some (.ok (.p (.lst (cutP xs lo hi))), M)
  | .own n => match M[n]? with
    | some (.lst xs) => match allP xs with
      | some ps => some (.ok (.p (.lst (cutP ps lo hi))), M)
      | none => none
    | _ => none
  | _ => none
theorem denL_drop {F : Addr → Prop} {H : Hp} : ∀ {ps : List P} {xs : List V} (n : Nat), DenL g F H ps xs → DenL g F H (ps.drop n) (xs.drop n)
  | ps, xs, 0, h => by simpa using h
  | [], xs, n + 1, h => by unfold DenL at h; subst h; simp; unfold DenL; rfl
  | p :: ps, xs, n + 1, h => by
    unfold DenL at h
    obtain ⟨x, r, rfl, _, h2⟩ := h
    exact denL_drop n h2
theorem denL_take {F : Addr → Prop} {H : Hp} : ∀ {ps : List P} {xs : List V} (n : Nat), DenL g F H ps xs → DenL g F H (ps.take n) (xs.take n)
  | ps, xs, 0, h => by simp; unfold DenL; rfl
  | [], xs, n + 1, h => by unfold DenL at h; subst h; simp; unfold DenL; rfl
  | p :: ps, xs, n + 1, h => by
    unfold DenL at h
    obtain ⟨x, r, rfl, h1, h2⟩ := h
    show DenL g F H (p :: ps.take n) (x :: r.take n)
    unfold DenL
    exact ⟨x, _, rfl, h1, denL_take n h2⟩
theorem denL_cut {F : Addr → Prop} {H : Hp} {ps : List P} {xs : List V} (lo hi : Option Int) (h : DenL g F H ps xs) : DenL g F H (cutP ps lo hi) (cutV xs lo hi) := by
  unfold cutP cutV
  rw [denL_len h]
  exact denL_take _ (denL_drop _ h)
def rDs (g : G) (E : XK) : V → Option Int → Option Int → Hp → VK → Prop := fun x lo hi H Q => ∃ w d, w.H = H ∧ Ok g w ∧ DenD g w d x ∧ Go g E w (sliceD d lo hi w.M) Q
theorem ss_slice (hK : X.K = g.K := by rfl) : SlR X (rDs g E) := fun pins s σ H x v vl vu lo hi sl Q I rx hs pl pu ⟨w, d, hw, k, h1, go⟩ => by
  subst hw
  unfold sliceD at go
  split at go
  · rename_i xs
    obtain ⟨a, ys, rfl, hq, hd⟩ := tup_at (w := w) (show Den g w.F w.H (.tup xs) x from h1)
    refine (SlR.or sl_tupA sl_list) pins s σ w.H _ v vl vu lo hi sl Q I rx hs pl pu (.inl ⟨a, ys, rfl, by rw [hK]; exact hq, fun e => ?_, fun _ => (then_of go).tup k (denL_cut lo hi hd)⟩)
    have e2 : cutP xs lo hi = xs := by
      unfold cutP
      rw [denL_len hd, e.1, e.2]
      simp
      rw [← denL_len hd]
      exact List.take_length
    rw [e2] at go
    exact (then_of go).here k h1
  · rename_i xs
    obtain ⟨a, ys, rfl, hq, hd⟩ := lst_at (w := w) (show Den g w.F w.H (.lst xs) x from h1)
    exact (SlR.or sl_tupA sl_list) pins s σ w.H _ v vl vu lo hi sl Q I rx hs pl pu (.inr ⟨a, ys, rfl, by rw [hK]; exact hq, (then_of go).lst k (denL_cut lo hi hd)⟩)
  · rename_i n
    split at go
    · rename_i xs hm
      split at go
      · rename_i ps hp
        obtain ⟨a, ys, rfl, e1, e2, _⟩ := own_lst k h1 hm
        exact (SlR.or sl_tupA sl_list) pins s σ w.H _ v vl vu lo hi sl Q I rx hs pl pu (.inr ⟨a, ys, rfl, SqL.of e1, (then_of go).lst k (denL_cut lo hi (denL_of hp e2))⟩)
      · exact (go_none go).elim
    · exact (go_none go).elim
  · exact (go_none go).elim
/-- a part of a slice -/
abbrev MO_ := Rho → Mem → Out (Option Int)
def oNone : MO_ := fun _ M => some (.ok none, M)
def oSome (m : ME) : MO_ := fun ρ M => bindR (m ρ M) fun d M => match d with
  | .p (.int i) => some (.ok (some i), M)
  | _ => none
def tMO (g : G) (E : XK) (m : MO_) : TO := fun σ H Q => ∃ ρ, At g E σ ρ [] H (m ρ) (fun w o => Q o w.H)
theorem PO.mono {e : Option Expr} {t t' : TO} (h : PO X e t) (q : ∀ σ H Q, t' σ H Q → t σ H Q) : PO X e t' := ⟨fun pins s σ H Q I z => h.run pins s σ H Q I (q σ H Q z)⟩
theorem do_none : PO X none (tMO g E oNone) := PO.mono po_none fun σ H Q ⟨ρ, h⟩ => by
  obtain ⟨w, e1, ok, sl, _, q⟩ := At.okE h
  subst e1
  exact q
theorem do_some {e : Expr} {m : ME} (h : PE X e (tM g E m)) : PO X (some e) (tMO g E (oSome m)) := PO.mono (po_some h) fun σ H Q ⟨ρ, h⟩ => tM_imp (At.bind h) fun v H1 ⟨d, h1⟩ => by
  cases d with
  | own n => exact (At.none h1).elim
  | p x =>
    cases x with
    | int i =>
      obtain ⟨w, e1, ok, sl, hΓ, q⟩ := At.okE (a := some i) h1
      subst e1
      exact ⟨i, hΓ (.p (.int i), v) (by simp), q⟩
    | _ => exact (At.none h1).elim
theorem At.bindO {α : Type} {σ : L2.St} {ρ : Rho} {Γ : List (D × V)} {H : Hp} {m : MO_} {k : Option Int → Mem → Out α} {R : Wd → α → Prop} (h : At g E σ ρ Γ H (fun M => bindR (m ρ M) k) R) :
    tMO g E m σ H fun o H1 => At g E σ ρ Γ H1 (k o) R := by
  obtain ⟨w, e, ok, sl, hΓ, r, M', hk, hp⟩ := h
  rcases out_split hk with ⟨a, M1, e1, e2⟩ | ⟨c, fs, e1, e2⟩
  · exact ⟨ρ, w, e, ok, sl, by simp, _, _, e1, fun w1 em l1 k1 => ⟨w1, rfl, k1, l1.slots ok sl, fun p hp1 => l1.denD ok (hΓ p hp1), r, M', by rw [em]; exact e2, hp.mono l1⟩⟩
  · subst e2
    exact ⟨ρ, w, e, ok, sl, by simp, _, _, e1, hp⟩
theorem tMO_imp {m : MO_} {σ : L2.St} {H : Hp} {Q Q' : Option Int → Hp → Prop} (h : tMO g E m σ H Q) (q : ∀ v H', Q v H' → Q' v H') : tMO g E m σ H Q' := by
  obtain ⟨ρ, w, e, ok, sl, hΓ, r, M', hk, hp⟩ := h
  refine ⟨ρ, w, e, ok, sl, hΓ, r, M', hk, ?_⟩
  cases r with
  | ok a => exact fun w' e l k => q _ _ (hp w' e l k)
  | exc c fs => exact hp
def eSlice (m : ME) (lo hi : MO_) : ME := fun ρ M => bindR (m ρ M) fun x M => bindR (lo ρ M) fun l M => bindR (hi ρ M) fun h M => sliceD x l h M
theorem d_slice {e : Expr} {lo hi : Option Expr} {m : ME} {ml mh : MO_} {p2 pos : Pos} (he : PE X e (tM g E m)) (hl : PO X lo (tMO g E ml)) (hu : PO X hi (tMO g E mh)) (hK : X.K = g.K := by rfl) : PE X (.Subscript e (.Slice lo hi none p2) pos) (tM g E (eSlice m ml mh)) :=
  PE.mono (pe_slice (ss_slice (g := g) (E := E) hK) he hl hu) fun σ H Q ⟨ρ, h⟩ => tM_imp (At.bind h) fun v H1 ⟨d, h1⟩ => tMO_imp (At.bindO h1) fun l H2 h2 => tMO_imp (At.bindO h2) fun u H3 h3 => by
    obtain ⟨w, e1, ok, sl, hΓ, go⟩ := h3
    exact ⟨w, d, e1, ok, hΓ (d, v) (by simp), go⟩
/-! ### isinstance -/
/-- the type of a thing: a built-in one, or a class -/
def tyD (d : D) (M : Mem) : Option (String ⊕ Str) := match d with
  | .p .non => some (.inl "NoneType")
  | .p (.bl _) => some (.inl "bool")
  | .p (.int _) => some (.inl "int")
  | .p (.str _) => some (.inl "str")
  | .p (.tup _) => some (.inl "tuple")
  | .p (.lst _) => some (.inl "list")
  | .p (.dic _ _) => some (.inl "dict")
  | .p (.obj c _) => some (.inr c)
  | .own n => match M[n]? with
    | some (.lst _) => some (.inl "list")
    | some (.dic _ _) => some (.inl "dict")
    | some (.tup _) => some (.inl "tuple")
    | some (.ins c _) => some (.inr c)
    | _ => none
  | _ => none
def clsD : D → Option (String ⊕ Str)
  | .p (.ty n) => some (.inl n)
  | .p (.cls c) => some (.inr c)
  | _ => none
def isiO (tab : String ⊕ Str → String ⊕ Str → Option Bool) : On := fun ds M => match ds with
  | [x, c] => match tyD x M, clsD c with
    | some t, some u => match tab t u with
      | some b => some (.ok (.p (.bl b)), M)
      | none => none
    | _, _ => none
  | _ => none
def tyV1 (g : G) : String ⊕ Str → Value
  | .inl n => .type n
  | .inr c => .ref (g.ct c)
structure IsiTab (g : G) (tab : String ⊕ Str → String ⊕ Str → Option Bool) : Prop where
  one : ∀ t u b, tab t u = some b → PySem.W.kitOne g.K (tyV1 g t) (tyV1 g u) = some b
  cls : ∀ c u b, tab (.inr c) u = some b → SlX.SCls g.K (g.ct c) ∧ SlX.SIsi g.K (g.ct c)
theorem tyD_at {w : Wd} (k : Ok g w) {d : D} {v : V} {t : String ⊕ Str} (h : DenD g w d v) (e : tyD d w.M = some t) : (∃ n, t = .inl n ∧ TyX g.K w.H v (.type n)) ∨ ∃ c a dx vs, t = .inr c ∧ v = .ref a ∧ SlX.Slt w.H a (g.ct c) dx vs := by
  cases d with
  | p x =>
    cases x with
    | non => have e := Option.some.inj e; have h : v = V.non := h; subst e h; exact .inl ⟨_, rfl, .base .non⟩
    | bl b => have e := Option.some.inj e; have h : v = V.bl b := h; subst e h; exact .inl ⟨_, rfl, .base (.bl b)⟩
    | int b => have e := Option.some.inj e; have h : v = V.int b := h; subst e h; exact .inl ⟨_, rfl, .base (.int b)⟩
    | str b => have e := Option.some.inj e; have h : v = V.str b := h; subst e h; exact .inl ⟨_, rfl, .base (.str b)⟩
    | tup ps =>
      have e := Option.some.inj e
      subst e
      have h' : Den g w.F w.H (.tup ps) v := h
      unfold Den at h'
      obtain ⟨a, xs, rfl, r, q⟩ := h'
      refine .inl ⟨_, rfl, ?_⟩
      rcases r with ⟨_, r | ⟨o, r⟩⟩ | ⟨o, its, n, k1, k2, _⟩
      · exact .base (.tup r)
      · exact .fTuple r
      · exact .kTuple k1 k2
    | lst ps =>
      have e := Option.some.inj e
      subst e
      have h' : Den g w.F w.H (.lst ps) v := h
      unfold Den at h'
      obtain ⟨a, xs, rfl, r, q⟩ := h'
      exact .inl ⟨_, rfl, .base (.lst r.at_)⟩
    | dic ks vs =>
      have e := Option.some.inj e
      subst e
      have h' : Den g w.F w.H (.dic ks vs) v := h
      unfold Den at h'
      obtain ⟨a, xs, rfl, f, r, q⟩ := h'
      refine .inl ⟨_, rfl, ?_⟩
      rcases r with r | ⟨o, r⟩
      · exact .base (.dK r)
      · exact .fDict r
    | obj c fs =>
      have e := Option.some.inj e
      subst e
      have h' : Den g w.F w.H (.obj c fs) v := h
      unfold Den at h'
      obtain ⟨a, dx, vs, xs, rfl, f, n, r, _⟩ := h'
      exact .inr ⟨c, a, dx, vs, rfl, rfl, .inr r⟩
    | ty _ => cases e
    | cls _ => cases e
  | own n =>
    unfold tyD at e
    simp only at e
    split at e
    · rename_i xs hm
      have e := Option.some.inj e
      subst e
      obtain ⟨a, ys, rfl, h1, _⟩ := own_lst k h hm
      exact .inl ⟨_, rfl, .base (.lst h1)⟩
    · rename_i ks vs hm
      have e := Option.some.inj e
      subst e
      obtain ⟨a, dx, rfl, _, _, ys, h1, _⟩ := own_at k h hm
      exact .inl ⟨_, rfl, .base (.dK h1)⟩
    · rename_i xs hm
      have e := Option.some.inj e
      subst e
      obtain ⟨a, dx, rfl, _, _, ys, h1, _⟩ := own_at k h hm
      exact .inl ⟨_, rfl, .base (.tup h1)⟩
    · rename_i c fs hm
      have e := Option.some.inj e
      subst e
      obtain ⟨a, dx, rfl, _, xs, h1, _⟩ := own_at k h hm
      exact .inr ⟨c, a, dx, xs, rfl, rfl, h1⟩
    · cases e
theorem clsD_at {w : Wd} {d : D} {v : V} {t : String ⊕ Str} (h : DenD g w d v) (e : clsD d = some t) : ClsV v (tyV1 g t) := by
  cases d with
  | own n => cases e
  | p x =>
    cases x with
    | ty n =>
      have e := Option.some.inj e
      have h : v = V.ty n := h
      subst e h
      exact .ty n
    | cls c =>
      have e := Option.some.inj e
      have h : v = V.ref (g.ct c) := h
      subst e h
      exact .own _
    | _ => cases e
theorem cls_rel {c : V} {u : Value} (k : ClsV c u) : RelV c u := by cases k <;> rfl
theorem cc_isi {tab : String ⊕ Str → String ⊕ Str → Option Bool} (T : IsiTab g tab) (hK : X.K = g.K := by rfl) : CallR X (.builtin "isinstance") (rDn g E (isiO tab)) := fun pins s σ H xs us Q I rx ⟨w, ds, hw, k, h, go⟩ => by
  subst hw
  unfold isiO at go
  split at go
  · rename_i x c
    cases h with
    | cons h1 hr =>
      cases hr with
      | cons h2 hn =>
        cases hn
        split at go
        · rename_i t u ht hu
          split at go
          · rename_i b hb
            have q := (then_of go).here k (v := V.bl b) rfl
            have one := T.one t u b hb
            rcases tyD_at k h1 ht with ⟨n, rfl, hty⟩ | ⟨cl, a, dx, vs, rfl, rfl, hsl⟩
            · exact call_isi pins s σ w.H _ us Q I rx ⟨_, _, _, _, b, rfl, clsD_at h2 hu, by rw [hK]; exact hty, by rw [hK]; exact one, q⟩
            · obtain ⟨q1, q2⟩ := T.cls cl u b hb
              exact SlX.call_isiSl (tyV1 g u) pins s σ w.H _ us Q I rx ⟨a, g.ct cl, dx, vs, _, b, rfl, cls_rel (clsD_at h2 hu), fun w' r' => (clsD_at h2 hu).eq r', hsl, by rw [hK]; exact q1, by rw [hK]; exact q2, by rw [hK]; exact one, q⟩
          · exact (go_none go).elim
        · exact (go_none go).elim
  · exact (go_none go).elim
theorem d_ty {x : Str} {n : String} {pos : Pos} (hg : Gl X x) (hm : X.mg x = none) (hv : bootBuiltins x = some (.type n)) (hn : x ≠ "__name__" := by decide) (hd : (x == ("__debug__" : Str)) = false := by decide) : PE X (.Name x pos) (tM g E (eC (.ty n))) :=
  d_c (pe_bltn (v := .ty n) hg hm hv rfl hn hd) fun _ => rfl
theorem d_cls {x : Str} {c : Str} {pos : Pos} (hg : Gl X x) (hm : X.mg x = some (.ref (g.ct c))) (hd : (x == ("__debug__" : Str)) = false := by decide) : PE X (.Name x pos) (tM g E (eC (.cls c))) :=
  d_c (pe_glob (v := .ref (g.ct c)) hg hm rfl hd) fun _ => rfl
end
end DL

set_option maxHeartbeats 4000000
namespace DLS
open PySem PySem.Spec PyProof.Rows L2 SrtO
section
variable {prog : Program} {w : World} {A : Around} {E : Value → Shared → Prop} {s : Shared}
/-- the items of a tuple, copied -/
theorem collect_tup {l : Addr} {o : Obj} {n : Nat} {vs : List Value} {Q : List Value → Shared → Prop} (ho : s.heap.get? l = some o) (hc : o.cls = .type "tuple") (hd : o.data = .seq vs.toArray n)
    (h : Q vs { s with heap := (s.heap.push (seqObj "list" #[] 0)).update s.heap.objs.size (Obj.mapSeq (· ++ vs.toArray)) }) (hsz : vs.length ≤ sizeLine) :
    wpAny (model prog w) A (collect (.ref l)) Q E s := by
  unfold collect
  refine wpAny_bind (wpAny_runValue (codeAny_builtin entry_proto_collect' ?_))
  show wpAny _ _ (do again (.builtin "list.__iadd__" ⟨[← newList [], .ref l], []⟩)) _ _ s
  refine wpAny_bind (wpAny_newList (wpAny_pure ⟨Code.quiet_builtin _ (by decide +kernel), codeAny_builtin entry_list_iadd' ?_⟩))
  show wpAny _ _ (Builtin.List.listExtendWith (.ref s.heap.objs.size) (.ref l) (.ref s.heap.objs.size)) _ _ { s with heap := s.heap.push (seqObj "list" #[] 0) }
  unfold Builtin.List.listExtendWith
  have ho' : (s.heap.push (seqObj "list" #[] 0)).get? l = some o := Heap.get?_push_of_some _ ho
  refine wpAny_bind (wpAny_typeOf (T := "tuple") ⟨o, ho', hc⟩ ?_)
  have ht : (Value.type "tuple" == Value.type "tuple") = true := by rfl
  rw [if_pos (by rw [ht]; simp)]
  refine wpAny_bind (listItems_at ho' hd ?_)
  refine wpAny_bind (listItems_at (xs := #[]) (n := 0) (Heap.get?_push_size _ rfl) rfl ?_)
  rw [if_neg (by simp)]
  refine wpAny_bind (listUpdate_at (xs := #[]) (n := 0) (Heap.get?_push_size _ rfl) rfl ?_ (Nat.zero_le _) (by show (#[] ++ vs.toArray).size ≤ sizeLine + 1; simp only [Array.size_append, List.size_toArray, List.length_nil]; omega))
  refine wpAny_pure ?_
  show wpAny (model prog w) A (do
      let o ← load s.heap.objs.size
      match o.data with
      | .seq xs _ => pure xs.toList
      | _ => unsupported "internal:collect") Q E { s with heap := (s.heap.push (seqObj "list" #[] 0)).update s.heap.objs.size (Obj.mapSeq (· ++ vs.toArray)) }
  refine wpAny_bind (wpAny_load (get?_update_seq (Heap.get?_push_size _ rfl) _) ?_)
  show wpAny _ _ (pure ((#[] : Array Value) ++ vs.toArray).toList) Q E _
  rw [show ((#[] : Array Value) ++ vs.toArray).toList = vs by simp]
  exact wpAny_pure h
theorem sorted_tup {l : Addr} {o : Obj} {n : Nat} {vs : List Value} {ltv : Value → Value → Bool} {Q : Value → Shared → Prop} (O : Swo ltv) (ho : s.heap.get? l = some o) (hc : o.cls = .type "tuple") (hd : o.data = .seq vs.toArray n) (hz : vs.length ≤ sizeLine)
    (hS : 2 ≤ vs.length → ∀ (h₁ : Heap) (a : Addr), h₁.get? a = some (seqObj "list" vs.toArray 0) → (∀ b o, s.heap.get? b = some o → b ≠ a ∧ h₁.get? b = some o) → SortableO prog w A.in1.in1 { s with heap := h₁ } a vs ltv)
    (h : ∀ out : List Value, Srtd ltv out → Stb ltv out vs → Q (.ref (s.heap.objs.size + 1)) { s with heap := sortedAll s.heap vs out.toArray }) :
    wpAny (model prog w) A (call (.builtin "sorted") [.ref l]) Q E s := by
  refine Calls.call_function_entry kind_sorted plain_sorted entry_sorted (args_sorted1 _) ?_
  unfold Builtin.«sorted»
  refine wpAny_bind (m := checkCount "sorted" 1 1 _) (wpAny_pure ?_)
  refine wpAny_bind (collect_tup ho hc hd ?_ hz)
  refine wpAny_bind (wpAny_newList ?_ hz)
  have hsz : ((s.heap.push (seqObj "list" #[] 0)).update s.heap.objs.size (Obj.mapSeq (· ++ vs.toArray))).objs.size = s.heap.objs.size + 1 := by
    rw [Heap.size_update, size_push']
  have hoL : (((s.heap.push (seqObj "list" #[] 0)).update s.heap.objs.size (Obj.mapSeq (· ++ vs.toArray))).push (seqObj "list" vs.toArray 0)).get? (s.heap.objs.size + 1) = some (seqObj "list" vs.toArray 0) := by
    rw [← hsz]; exact Heap.get?_push_size _ rfl
  have keep : ∀ b o, s.heap.get? b = some o → b ≠ s.heap.objs.size + 1 ∧ (((s.heap.push (seqObj "list" #[] 0)).update s.heap.objs.size (Obj.mapSeq (· ++ vs.toArray))).push (seqObj "list" vs.toArray 0)).get? b = some o := fun b o q => by
    have hlt : b < s.heap.objs.size := Heap.lt_size q
    refine ⟨Nat.ne_of_lt (Nat.lt_succ_of_lt hlt), Heap.get?_push_of_some _ ?_⟩
    rw [Heap.get?_update_ne _ _ _ _ (Nat.ne_of_lt hlt)]
    exact Heap.get?_push_of_some _ q
  show wpAny _ _ _ _ _ { s with heap := ((s.heap.push (seqObj "list" #[] 0)).update s.heap.objs.size (Obj.mapSeq (· ++ vs.toArray))).push (seqObj "list" vs.toArray 0) }
  rw [hsz]
  refine wpAny_bind (wpAny_holding (wpAny_call_entry slot_list_sort ⟨_, hoL, rfl⟩ entry_list_sort (list_sort_ord O hoL hz (fun h2 => hS h2 _ _ hoL keep) fun out hs hb => ⟨_, rfl, ?_⟩) (args_list_sort _)))
  exact wpAny_pure ⟨_, rfl, h out hs hb⟩
end
/-- sorted(xs), a tuple of ints -/
def rSortedT (K : PySem.W.Frag) : List V → Hp → VK → Prop := fun vs H Q => ∃ (a : Addr) (ns : List Int), vs = [V.ref a] ∧ SqT K H a (ns.map V.int) ∧
  ∀ (ns' : List Int) (p : Addr), ns'.Perm ns → ns'.Pairwise (· ≤ ·) → H p = none → Q (.ref p) (upd H p (.lst (ns'.map V.int)))
theorem cr_sortedT {X : Cx} : CallR X (.builtin "sorted") (rSortedT X.K) := by
  intro pins s σ H vs us Q I r h
  obtain ⟨a, ns, rfl, hs, q⟩ := h
  obtain ⟨its, rv, o, ho, hc, n, hd, hz⟩ : ∃ its : List Value, Vals (ns.map V.int) its ∧ ∃ o : Obj, s.heap.get? a = some o ∧ o.cls = .type "tuple" ∧ ∃ n, o.data = .seq its.toArray n ∧ its.length ≤ sizeLine := by
    rcases hs with hs | ⟨o, its, n, h1, h2, h3, h4, h5⟩
    · obtain ⟨z, its, r, o, h1, h2, n, h3⟩ := (show ObjOk X.prog X.w H s.heap a (.tup (ns.map V.int)) from hs.ok I.hok)
      exact ⟨its, r, o, h1, h2, n, h3, by rw [← r.length]; exact z⟩
    · exact ⟨its.toList, h5, o, I.kIn _ _ h1, h2, n, by simpa using h3, by simpa using h4⟩
  rw [Vals.ref1 r]
  have hi := rv.ints
  refine sorted_tup SrtO.swo_int ho hc hd hz (fun h2 h₁ a' _ _ => SrtO.ints_sortable hi h2) fun out h1 h2 => ?_
  obtain ⟨k1, k2, k3⟩ := SrtO.ints_out hi h1 h2
  obtain ⟨ep, he'⟩ := PyProof.Rows.sortedAll_at s.heap its out.toArray
  have hlen : ((out.map SrtO.iv).map V.int).length ≤ sizeLine := by
    rw [List.length_map, k2.length_eq]
    have := rv.length
    rw [List.length_map] at this
    omega
  exact ⟨.ref _, upd H (s.heap.objs.size + 1) (.lst ((out.map SrtO.iv).map V.int)), I.laid (t' := s.toks) (fun _ _ => PyProof.Rows.sortedAll_old) (Nat.le_succ _) ⟨hlen, out, ep, vals_of_ints k1, he'⟩, rfl, q _ _ k2 k3 (I.hok.fresh (Nat.le_succ _))⟩
end DLS

set_option maxHeartbeats 4000000
namespace DL
open PySem PySem.Spec PyProof.Rows L2
section
variable {X : Cx} {g : G} {E : XK} {σ : L2.St} {ρ : Rho} {Γ : List (D × V)} {H : Hp}
/-! ### dicts of one's own -/
def keyP : P → Option Key
  | .int i => some (.inl i)
  | .str x => some (.inr x)
  | _ => none
theorem key_den {F : Addr → Prop} {H : Hp} {p : P} {k : Key} {v : V} (e : keyP p = some k) (h : Den g F H p v) : v = kV k := by
  cases p <;> simp only [keyP] at e <;> first | cases e | skip
  · exact h
  · exact h
def keyD : D → Option Key
  | .p x => keyP x
  | _ => none
theorem keyD_den {w : Wd} {d : D} {k : Key} {v : V} (e : keyD d = some k) (h : DenD g w d v) : v = kV k := by
  cases d with
  | p x => exact key_den e h
  | own n => cases e
theorem own_dic {w : Wd} {n : Nat} {ks : List Key} {ds : List D} (k : Ok g w) {v : V} (hd : DenD g w (.own n) v) (hm : w.M[n]? = some (.dic ks ds)) : ∃ a xs, v = .ref a ∧ w.H a = some (.dK (ks.zip xs)) ∧ ks.length = xs.length ∧ DenDs g w ds xs ∧ w.io[n]? = some (a, a) := by
  obtain ⟨a, dx, rfl, hio, md⟩ := own_at k hd hm
  obtain ⟨e, xs, h1, h0, h2⟩ := md
  subst e
  exact ⟨_, xs, rfl, h1, h0, h2, hio⟩
theorem own_putD {w : Wd} {n : Nat} {ks : List Key} {ds' : List D} {o : HO} {ys : List V} {a : Addr} (k : Ok g w) (hio : w.io[n]? = some (a, a)) (h1 : w.H a = some o) (hl : ks.length = ys.length) (hy : DenDs g w ds' ys) :
    ∃ w', w'.H = upd w.H a (.dK (ks.zip ys)) ∧ w'.M = w.M.set n (.dic ks ds') ∧ w'.io = w.io ∧ Le w w' ∧ Ok g w' := by
  have l := own_le (w := w) (n := n) (a := a) (dx := a) (m' := .dic ks ds') (H' := upd w.H a (.dK (ks.zip ys))) hio upd_out upd_some upd_some
  exact ⟨{ w with M := w.M.set n (.dic ks ds'), H := upd w.H a (.dK (ks.zip ys)) }, rfl, rfl, rfl, l, own_ok (m' := .dic ks ds') k hio upd_out upd_some upd_some ⟨rfl, ys, upd_same, hl, l.denDs k hy⟩⟩
/-- the pairs of a display -/
def pPairs : List (ME × ME) → Rho → Mem → Out (List (D × D))
  | [], _, M => some (.ok [], M)
  | (a, b) :: r, ρ, M => bindR (a ρ M) fun x M => bindR (b ρ M) fun y M => bindR (pPairs r ρ M) fun l M => some (.ok ((x, y) :: l), M)
def flat2 (ds : List (D × D)) (ps : List (V × V)) : List (D × V) := (ds.zip ps).flatMap fun z => [(z.1.1, z.2.1), (z.1.2, z.2.2)]
theorem pairs_read {α : Type} : ∀ {l : List (ME × ME)} {Γ : List (D × V)} {H : Hp} {k : List (D × D) → Mem → Out α} {R : Wd → α → Prop}, At g E σ ρ Γ H (fun M => bindR (pPairs l ρ M) k) R →
    tPairs (l.map fun p => (tM g E p.1, tM g E p.2)) σ H fun ps H2 => ∃ ds, ds.length = ps.length ∧ ∃ Γ', (∀ z ∈ Γ, z ∈ Γ') ∧ (∀ z ∈ flat2 ds ps, z ∈ Γ') ∧ At g E σ ρ Γ' H2 (k ds) R
  | [], Γ, H, k, R, h => ⟨[], rfl, Γ, fun _ z => z, by simp [flat2], h⟩
  | (a, b) :: r, Γ, H, k, R, h => by
    show tM g E a σ H _
    have h' : At g E σ ρ Γ H (fun M => bindR (a ρ M) fun x M => bindR (b ρ M) fun y M => bindR (pPairs r ρ M) fun l M => k ((x, y) :: l) M) R := At.eq h fun M => by
      simp only [pPairs, bindR_assoc]
      rfl
    refine tM_imp (At.bind h') fun x H1 ⟨d, h1⟩ => ?_
    refine tM_imp (At.bind h1) fun y H2 ⟨e, h2⟩ => ?_
    have ih := pairs_read (l := r) (k := fun l M => k ((d, e) :: l) M) h2
    have key : ∀ {trs : List (TE × TE)} {σ : L2.St} {H : Hp} {Q Q' : List (V × V) → Hp → Prop}, (∀ t ∈ trs, ∃ p : ME × ME, t = (tM g E p.1, tM g E p.2)) → tPairs trs σ H Q → (∀ ps H, Q ps H → Q' ps H) → tPairs trs σ H Q' := by
      intro trs
      induction trs with
      | nil => intro σ H Q Q' _ a b; exact b _ _ a
      | cons t r ih =>
        intro σ H Q Q' ha a b
        obtain ⟨p, rfl⟩ := ha t (by simp)
        exact tM_imp a fun x H1 a1 => tM_imp a1 fun y H2 a2 => ih (fun t ht => ha t (by simp [ht])) a2 fun ps H3 q => b _ _ q
    refine key (fun t ht => ?_) ih fun ps H3 ⟨ds, hl, Γ', q1, q2, q3⟩ => ⟨(d, e) :: ds, by simp [hl], Γ', fun z hz => q1 z (by simp [hz]), fun z hz => ?_, q3⟩
    · obtain ⟨p, _, rfl⟩ := List.mem_map.mp ht
      exact ⟨p, rfl⟩
    · simp only [flat2, List.zip_cons_cons, List.flatMap_cons, List.mem_append, List.mem_cons, List.not_mem_nil, or_false] at hz
      rcases hz with (rfl | rfl) | hz
      · exact q1 _ (by simp)
      · exact q1 _ (by simp)
      · exact q2 z hz
def keysOf : List (D × D) → Option (List Key)
  | [] => some []
  | x :: r => match keyD x.1, keysOf r with
    | some k, some ks => some (k :: ks)
    | _, _ => none
theorem keysOf_len : ∀ {ds : List (D × D)} {ks : List Key}, keysOf ds = some ks → ks.length = ds.length
  | [], ks, h => by simp [keysOf] at h; subst h; rfl
  | x :: r, ks, h => by
    unfold keysOf at h
    split at h
    · rename_i k ks' h1 h2
      have := Option.some.inj h
      subst this
      simp [keysOf_len h2]
    · cases h
def dicEnd (n : Nat) (ds : List (D × D)) (M : Mem) : Out D := match keysOf ds, M[n]? with
  | some ks, some (.dic [] []) => if ks.Nodup ∧ ks.length ≤ 15 then some (.ok (.own n), M.set n (.dic ks (ds.map (·.2)))) else none
  | _, _ => none
def eDict (l : List (ME × ME)) : ME := fun ρ M => bindR (pPairs l ρ (M ++ [.dic [] []])) (dicEnd M.length)
theorem merge_nodup : ∀ {kvs acc : List (Key × V)}, (acc.map (·.1) ++ kvs.map (·.1)).Nodup → mergeK acc kvs = acc ++ kvs
  | [], acc, _ => by simp [mergeK]
  | p :: r, acc, h => by
    have hn : ¬ (acc.any fun kv => decide (kv.1 = p.1)) = true := by
      intro z
      obtain ⟨q, hq, e⟩ := List.any_eq_true.mp z
      have e := of_decide_eq_true e
      simp only [List.map_cons, List.nodup_append] at h
      exact h.2.2 q.1 (List.mem_map.mpr ⟨q, hq, rfl⟩) p.1 (by simp) e
    show mergeK (putK acc p.1 p.2) r = acc ++ p :: r
    have e : putK acc p.1 p.2 = acc ++ [p] := by
      unfold putK
      rw [if_neg hn]
    rw [e, merge_nodup (by simpa using h)]
    simp
theorem flat_den {w : Wd} : ∀ {ds : List (D × D)} {ps : List (V × V)} {ks : List Key}, ds.length = ps.length → keysOf ds = some ks → (∀ z ∈ flat2 ds ps, DenD g w z.1 z.2) → ps = (ks.zip (ps.map (·.2))).map (fun kv => (kV kv.1, kv.2)) ∧ DenDs g w (ds.map (·.2)) (ps.map (·.2))
  | [], [], ks, _, hk, _ => by simp [keysOf] at hk; subst hk; exact ⟨rfl, .nil⟩
  | [], _ :: _, _, e, _, _ => by simp at e
  | _ :: _, [], _, e, _, _ => by simp at e
  | x :: ds, p :: ps, ks, e, hk, h => by
    unfold keysOf at hk
    split at hk
    · rename_i k ks' h1 h2
      have := Option.some.inj hk
      subst this
      have hf : ∀ z ∈ flat2 ds ps, DenD g w z.1 z.2 := fun z hz => h z (by simp [flat2] at hz ⊢; exact .inr (.inr hz))
      obtain ⟨a1, a2⟩ := flat_den (by simpa using e) h2 hf
      have k1 := keyD_den h1 (h (x.1, p.1) (by simp [flat2]))
      simp only at k1
      refine ⟨?_, .cons (h (x.2, p.2) (by simp [flat2])) a2⟩
      simp only [List.map_cons, List.zip_cons_cons, ← k1]
      rw [← a1]
    · cases hk
theorem zip_fst {α β : Type} : ∀ {ks : List α} {xs : List β}, ks.length = xs.length → (ks.zip xs).map (·.1) = ks
  | [], _, _ => by simp
  | k :: ks, [], h => by simp at h
  | k :: ks, x :: xs, h => by simp [zip_fst (ks := ks) (xs := xs) (by simpa using h)]
theorem d_dict {keys : List (Option Expr)} {values : List Expr} {l : List (ME × ME)} {pos : Pos} (h : PPs X pos keys values (l.map fun p => (tM g E p.1, tM g E p.2))) (hall : keys.all (·.isSome) = true := by rfl) (hl : keys.length = values.length := by rfl) (h0 : keys ≠ [] := by simp) (h15 : keys.length ≤ 15 := by decide) :
    PE X (.Dict keys values pos) (tM g E (eDict l)) := PE.mono (pe_disp h hall hl h0 h15) fun σ H Q ⟨ρ, w, e1, ok, sl, hΓ, r, M', hk, hp⟩ p hn => by
  subst e1
  have k1 := put_ok (w := w) (p := p) (o := .dK []) (m := .dic [] []) ok hn ⟨rfl, [], upd_same, rfl, .nil⟩
  have l1 := put_le (w := w) (p := p) (o := .dK []) (m := .dic [] []) ok hn
  have hA : At g E σ ρ [(.own w.M.length, .ref p)] (w.put p (.dK []) (.dic [] [])).H (fun M => bindR (pPairs l ρ M) (dicEnd w.M.length)) (RV g Q) :=
    ⟨w.put p (.dK []) (.dic [] []), rfl, k1, l1.slots ok sl, fun z hz => by
      rcases List.mem_singleton.mp hz with rfl
      exact ⟨p, p, rfl, by simp [Wd.put, ← ok.len]⟩, r, M', hk, hp.mono l1⟩
  have key : ∀ {trs : List (TE × TE)} {σ : L2.St} {H : Hp} {Q Q' : List (V × V) → Hp → Prop}, (∀ t ∈ trs, ∃ p : ME × ME, t = (tM g E p.1, tM g E p.2)) → tPairs trs σ H Q → (∀ ps H, Q ps H → Q' ps H) → tPairs trs σ H Q' := by
    intro trs
    induction trs with
    | nil => intro σ H Q Q' _ a b; exact b _ _ a
    | cons t r ih =>
      intro σ H Q Q' ha a b
      obtain ⟨p, rfl⟩ := ha t (by simp)
      exact tM_imp a fun x H1 a1 => tM_imp a1 fun y H2 a2 => ih (fun t ht => ha t (by simp [ht])) a2 fun ps H3 q => b _ _ q
  refine key (fun t ht => by obtain ⟨p, _, rfl⟩ := List.mem_map.mp ht; exact ⟨p, rfl⟩) (pairs_read hA) fun ps H2 ⟨ds, hds, Γ', q1, q2, q3⟩ => ?_
  obtain ⟨w2, e2, ok2, sl2, hΓ2, r2, M2, hk2, hp2⟩ := q3
  subst e2
  unfold dicEnd at hk2
  split at hk2
  · rename_i ks hks hm
    split at hk2
    · rename_i hc
      have hd := hΓ2 _ (q1 _ (by simp : (D.own w.M.length, V.ref p) ∈ [(D.own w.M.length, V.ref p)]))
      obtain ⟨a, xs, e, hH, hl0, _, hio⟩ := own_dic ok2 hd hm
      cases e
      have hxs : xs = [] := List.length_eq_zero_iff.mp (by simpa using hl0.symm)
      subst hxs
      obtain ⟨f1, f2⟩ := flat_den hds hks fun z hz => hΓ2 z (q2 z hz)
      have hlen : ks.length = (ps.map (·.2)).length := by rw [List.length_map, keysOf_len hks, hds]
      refine ⟨hH, ks.zip (ps.map (·.2)), f1, by rw [List.length_zip, ← hlen]; simpa using hc.2, ?_⟩
      rw [merge_nodup (acc := []) (by simp only [List.map_nil, List.nil_append]; rw [zip_fst hlen]; exact hc.1), List.nil_append]
      obtain ⟨w3, z1, z2, z3, z4, z5⟩ := own_putD (ks := ks) ok2 hio hH hlen f2
      have e5 := Option.some.inj hk2
      have e6 : Res.ok (D.own w.M.length) = r2 := congrArg Prod.fst e5
      have e7 : w2.M.set w.M.length (.dic ks (ds.map (·.2))) = M2 := congrArg Prod.snd e5
      subst e6 e7
      have z := hp2 w3 z2 z4 z5 (.ref p) (z4.denD ok2 hd)
      rw [z1] at z
      exact z
    · cases hk2
  · cases hk2
/-- {} -/
def eNewD : ME := fun _ M => some (.ok (.own M.length), M ++ [.dic [] []])
def eNewP : ME := fun _ M => some (.ok (.p (.dic [] [])), M)
theorem d_newD {pos : Pos} : PE X (.Dict [] [] pos) (tM g E eNewD) := PE.mono pe_dnewK fun σ H Q ⟨ρ, w, e1, ok, sl, hΓ, r, M', hk, hp⟩ p hn => by
  subst e1
  have k1 := put_ok (w := w) (p := p) (o := .dK []) (m := .dic [] []) ok hn ⟨rfl, [], upd_same, rfl, .nil⟩
  have l1 := put_le (w := w) (p := p) (o := .dK []) (m := .dic [] []) ok hn
  have e5 := Option.some.inj hk
  have e6 : Res.ok (D.own w.M.length) = r := congrArg Prod.fst e5
  have e7 : w.M ++ [.dic [] []] = M' := congrArg Prod.snd e5
  subst e6 e7
  exact hp _ rfl l1 k1 (.ref p) ⟨p, p, rfl, by simp [Wd.put, ← ok.len]⟩
theorem d_newP {pos : Pos} : PE X (.Dict [] [] pos) (tM g E eNewP) := PE.mono pe_dnewK fun σ H Q ⟨ρ, w, e1, ok, sl, hΓ, r, M', hk, hp⟩ p hn => by
  subst e1
  have e5 := Option.some.inj hk
  have e6 : Res.ok (D.p (.dic [] [])) = r := congrArg Prod.fst e5
  have e7 : w.M = M' := congrArg Prod.snd e5
  subst e6 e7
  refine hp (w.lay p (.dK [])) rfl (lay_le ok hn) (lay_ok ok hn) (.ref p) ?_
  show Den g _ _ (.dic [] []) _
  unfold Den
  exact ⟨p, [], rfl, .inr rfl, .inl upd_same, rfl, rfl⟩
def hasK (ks : List Key) (k : Key) : Bool := ks.any fun q => decide (q = k)
theorem hasK_iff {ks : List Key} {k : Key} : hasK ks k = true ↔ k ∈ ks := by
  unfold hasK
  rw [List.any_eq_true]
  constructor
  · rintro ⟨q, hq, e⟩
    exact of_decide_eq_true e ▸ hq
  · intro h
    exact ⟨k, h, decide_eq_true rfl⟩
theorem valV_zip {k : Key} : ∀ {ks : List Key} {xs : List V}, ks.length = xs.length → (valV (ks.zip xs) k).isSome = hasK ks k
  | [], [], _ => by simp [valV, hasK]
  | [], _ :: _, h => by simp at h
  | _ :: _, [], h => by simp at h
  | q :: ks, x :: xs, h => by
    by_cases e : q = k
    · subst e
      rw [List.zip_cons_cons, valV_pos rfl]
      simp [hasK]
    · rw [List.zip_cons_cons, valV_neg e, valV_zip (by simpa using h)]
      simp [hasK, e]
def inDic : O2 := fun d e M => match keyD d, e with
  | some k, .own n => match M[n]? with
    | some (.dic ks _) => some (.ok (.p (.bl (hasK ks k))), M)
    | _ => none
  | _, _ => none
def ninDic : O2 := fun d e M => match keyD d, e with
  | some k, .own n => match M[n]? with
    | some (.dic ks _) => some (.ok (.p (.bl (!hasK ks k))), M)
    | _ => none
  | _, _ => none
theorem oo_inDic (hu : X.A.units + 1 < cLine) : OpR X (compareOp .In) (rD2 g E inDic) := fun pins s σ H x y v u Q I rx ry ⟨w, d, e, hw, ok, h1, h2, go⟩ => by
  subst hw
  unfold inDic at go
  split at go
  · rename_i k n hk
    split at go
    · rename_i ks vs hm
      obtain ⟨a, xs, rfl, hH, hl, _, _⟩ := own_dic ok h2 hm
      obtain rfl := keyD_den hk h1
      cases (show u = Value.ref a from ry)
      have t := then_of go
      refine d_in hu I (DGet.k hH) rx fun s' I' => ⟨.bl _, w.H, I', rfl, ?_⟩
      rw [valV_zip hl]
      exact t.here ok rfl
    · exact (go_none go).elim
  · exact (go_none go).elim
theorem oo_ninDic (hu : X.A.units + 1 < cLine) : OpR X (compareOp .NotIn) (rD2 g E ninDic) := fun pins s σ H x y v u Q I rx ry ⟨w, d, e, hw, ok, h1, h2, go⟩ => by
  subst hw
  unfold ninDic at go
  split at go
  · rename_i k n hk
    split at go
    · rename_i ks vs hm
      obtain ⟨a, xs, rfl, hH, hl, _, _⟩ := own_dic ok h2 hm
      obtain rfl := keyD_den hk h1
      cases (show u = Value.ref a from ry)
      have t := then_of go
      refine d_notIn hu I (DGet.k hH) rx fun s' I' => ⟨.bl _, w.H, I', rfl, ?_⟩
      rw [valV_zip hl]
      exact t.here ok rfl
    · exact (go_none go).elim
  · exact (go_none go).elim
/-- d[k] = v -/
def keysPut (ks : List Key) (k : Key) : List Key := if hasK ks k then ks else ks ++ [k]
def valsPut : List Key → List D → Key → D → List D
  | [], _, _, v => [v]
  | q :: ks, d :: ds, k, v => if q = k then v :: ds else d :: valsPut ks ds k v
  | _ :: _, [], _, _ => []
theorem map_keep {k : Key} {x : V} : ∀ {kvs : List (Key × V)}, (∀ p ∈ kvs, p.1 ≠ k) → kvs.map (fun kv => if kv.1 = k then (kv.1, x) else kv) = kvs
  | [], _ => rfl
  | p :: r, h => by
    simp only [List.map_cons]
    rw [if_neg (h p (by simp)), map_keep fun q hq => h q (by simp [hq])]
theorem put_zip {w : Wd} {k : Key} {v : D} {x : V} (hv : DenD g w v x) : ∀ {ks : List Key} {ds : List D} {xs : List V}, ks.Nodup → ks.length = xs.length → DenDs g w ds xs →
    ∃ ys, putK (ks.zip xs) k x = (keysPut ks k).zip ys ∧ (keysPut ks k).length = ys.length ∧ DenDs g w (valsPut ks ds k v) ys
  | [], ds, xs, _, hl, h => by
    have : xs = [] := List.length_eq_zero_iff.mp hl.symm
    subst this
    cases h
    exact ⟨[x], by simp [putK, keysPut, hasK], by simp [keysPut, hasK], .cons hv .nil⟩
  | q :: ks, _, [], _, hl, _ => by simp at hl
  | q :: ks, _, y :: xs, hn, hl, .cons (a := d) (l₁ := ds) h1 h2 => by
    have hn' := List.nodup_cons.mp hn
    by_cases e : q = k
    · subst e
      refine ⟨x :: xs, ?_, by simpa [keysPut, hasK] using hl, by simp only [valsPut, if_true]; exact .cons hv h2⟩
      unfold putK
      rw [if_pos (by simp)]
      simp only [keysPut, hasK, List.any_cons, decide_true, Bool.true_or, if_true, List.zip_cons_cons, List.map_cons]
      rw [map_keep fun p hp z => hn'.1 (by rw [← z]; exact (List.of_mem_zip (a := p.1) (b := p.2) hp).1)]
    · obtain ⟨ys, a1, a2, a3⟩ := put_zip (k := k) hv (ks := ks) hn'.2 (by simpa using hl) h2
      have ek : keysPut (q :: ks) k = q :: keysPut ks k := by
        unfold keysPut
        have e1 : hasK (q :: ks) k = hasK ks k := by simp [hasK, e]
        rw [e1]
        split <;> rfl
      refine ⟨y :: ys, ?_, by rw [ek]; simp [a2], by simp only [valsPut, if_neg e]; exact .cons h1 a3⟩
      rw [ek, List.zip_cons_cons, List.zip_cons_cons, ← a1]
      unfold putK
      by_cases hm : ((ks.zip xs).any fun kv => decide (kv.1 = k)) = true
      · rw [if_pos hm, if_pos (by simp only [List.any_cons, hm, Bool.or_true])]
        simp [e]
      · rw [if_neg hm, if_neg (by simp only [List.any_cons, e, decide_false, Bool.false_or]; exact hm)]
        rfl
def sPut (mo mi mv : ME) : MS := fun ρ M => bindR (mv ρ M) fun v M => bindR (mo ρ M) fun o M => bindR (mi ρ M) fun i M => match o, keyD i with
  | .own n, some k => match M[n]? with
    | some (.dic ks ds) => if ks.Nodup ∧ ks.length < sizeLine then some (.ok (.nx ρ), M.set n (.dic (keysPut ks k) (valsPut ks ds k v))) else none
    | _ => none
  | _, _ => none
theorem ds_put {o i value : Expr} {mo mi mv : ME} {pos pos' : Pos} (hu : X.A.units + 1 < cLine) (ho : PE X o (tM g E mo)) (hi : PE X i (tM g E mi)) (hv : PE X value (tM g E mv)) (hs : swapsWith value (some (.Subscript o i pos')) pos.line X.env = pure false := by rfl) :
    PS X (.Assign [.Subscript o i pos'] value pos) (tS g E (sPut mo mi mv)) := PS.mono (ps_dput hu ho hi hv hs) fun Dn σ H ⟨ρ, h⟩ => tM_imp (At.bind h) fun v H1 ⟨dv, h1⟩ => tM_imp (At.bind h1) fun x H2 ⟨dx, h2⟩ => tM_imp (At.bind h2) fun y H3 ⟨dy, h3⟩ => by
  obtain ⟨w, e1, ok, sl, hΓ, r, M', hk, hp⟩ := h3
  subst e1
  simp only at hk
  cases dx with
  | p _ => cases hk
  | own n =>
  cases hkey : keyD dy with
  | none => rw [hkey] at hk; cases hk
  | some k =>
  rw [hkey] at hk
  simp only at hk
  cases hm : w.M[n]? with
  | none => rw [hm] at hk; cases hk
  | some mo' =>
  rw [hm] at hk
  cases mo' with
  | dic ks ds =>
    simp only at hk
    split at hk
    · rename_i hc
      obtain ⟨a, xs, e, hH, hl, hds, hio⟩ := own_dic ok (hΓ (.own n, x) (by simp)) hm
      cases e
      have ey := keyD_den hkey (hΓ (dy, y) (by simp))
      simp only at ey
      subst ey
      obtain ⟨ys, a1, a2, a3⟩ := put_zip (k := k) (hΓ (dv, v) (by simp)) hc.1 hl hds
      obtain ⟨w3, z1, z2, z3, z4, z5⟩ := own_putD (ks := keysPut ks k) ok hio hH a2 a3
      have e5 := Option.some.inj hk
      have e6 : Res.ok (Fl.nx ρ) = r := congrArg Prod.fst e5
      have e7 := congrArg Prod.snd e5
      simp only at e7
      subst e6 e7
      refine ⟨a, _, rfl, DPut.k hH (by rw [List.length_zip, ← hl]; simpa using hc.2), ?_⟩
      have z := hp w3 z2 z4 z5 σ (z4.slots ok sl)
      rw [z1, ← a1] at z
      exact z
    · cases hk
  | _ => cases hk
/-- one of two ways -/
theorem PS.or {st : Stmt} {t t' : TS} (h : PS X st t) (h' : PS X st t') : PS X st (fun D σ H => t D σ H ∨ t' D σ H) := ⟨fun pins s σ H D I z => z.elim (h.run pins s σ H D I) (h'.run pins s σ H D I)⟩
def sEither (a b : MS) : MS := fun ρ M => orO (a ρ M) (b ρ M)
theorem ds_either {st : Stmt} {a b : MS} (h : PS X st (tS g E a)) (h' : PS X st (tS g E b)) : PS X st (tS g E (sEither a b)) := PS.mono (PS.or h h') fun Dn σ H ⟨ρ, w, e1, ok, sl, hΓ, r, M', hk, hp⟩ => by
  unfold sEither at hk
  cases ha : a ρ w.M with
  | none =>
    rw [ha] at hk
    exact .inr ⟨ρ, w, e1, ok, sl, hΓ, r, M', hk, hp⟩
  | some z =>
    rw [ha] at hk
    exact .inl ⟨ρ, w, e1, ok, sl, hΓ, r, M', by rw [ha]; exact hk, hp⟩
/-- d[k] -/
def getKD : List Key → List D → Key → Option D
  | q :: ks, d :: ds, k => if q = k then some d else getKD ks ds k
  | _, _, _ => none
def getDic : O2 := fun x y M => match x, keyD y with
  | .own n, some k => match M[n]? with
    | some (.dic ks ds) => match getKD ks ds k with
      | some d => some (.ok d, M)
      | none => none
    | _ => none
  | _, _ => none
theorem get_zip {w : Wd} {k : Key} {d : D} : ∀ {ks : List Key} {ds : List D} {xs : List V}, DenDs g w ds xs → getKD ks ds k = some d → ∃ x, valV (ks.zip xs) k = some x ∧ DenD g w d x
  | [], _, _, _, e => by simp [getKD] at e
  | q :: ks, _, _, .nil, e => by simp [getKD] at e
  | q :: ks, _, _, .cons h1 h2, e => by
    unfold getKD at e
    split at e
    · rename_i z
      have := Option.some.inj e
      subst this
      exact ⟨_, by rw [List.zip_cons_cons, valV_pos z], h1⟩
    · rename_i z
      obtain ⟨x, a1, a2⟩ := get_zip h2 e
      exact ⟨x, by rw [List.zip_cons_cons, valV_neg z]; exact a1, a2⟩
theorem d_get {o i : Expr} {mo mi : ME} {pos : Pos} (hu : X.A.units + 1 < cLine) (ho : PE X o (tM g E mo)) (hi : PE X i (tM g E mi)) (hs : NoSl i) : PE X (.Subscript o i pos) (tM g E (eOp getDic mo mi)) :=
  PE.mono (pe_dget hu ho hi hs) fun σ H Q h => tM_imp (op_two h) fun x H1 h1 => tM_imp h1 fun y H2 ⟨w, d, e, hw, ok, h2, h3, go⟩ => by
  subst hw
  unfold getDic at go
  split at go
  · rename_i n k hk
    split at go
    · rename_i ks ds hm
      split at go
      · rename_i dd hg
        obtain ⟨a, xs, rfl, hH, hl, hds, _⟩ := own_dic ok h2 hm
        obtain rfl := keyD_den hk h3
        obtain ⟨z, a1, a2⟩ := get_zip hds hg
        refine ⟨a, z, rfl, by rw [← a1]; exact DGet.k hH, ?_⟩
        obtain ⟨r, M', e, po⟩ := go
        exact post_ok (R := RV g Q) (a := dd) ok e po z a2
      · exact (go_none go).elim
    · exact (go_none go).elim
  · exact (go_none go).elim
/-! ### [*xs, y] -/
def aStar (m : ME) (r : MA) : MA := fun ρ M => bindR (m ρ M) fun d M => match itemsD d M with
  | some ds => bindR (r ρ M) fun es M => some (.ok (ds ++ es), M)
  | none => none
theorem da_star {e : Expr} {es : List Expr} {m : ME} {r : MA} {p : Pos} (ha : PE X e (tM g E m)) (hr : PA X es (tMA g E r)) (hK : X.K = g.K := by rfl) (hs : starEach (.Starred e p :: es) X.env = (true, eval e X.env) :: starEach es X.env := by rfl) : PA X (.Starred e p :: es) (tMA g E (aStar m r)) :=
  PA.mono (StX.pa_star ha hr hs) fun σ H Q ⟨ρ, h⟩ => tM_imp (At.bind h) fun x H1 ⟨d, h1⟩ => by
  obtain ⟨w, e1, ok, sl, hΓ, r', M', hk, hp⟩ := h1
  subst e1
  simp only at hk
  split at hk
  · rename_i ds hi
    obtain ⟨a, xs, rfl, hsq, hds⟩ := items_at ok (hΓ (d, x) (by simp)) hi
    refine ⟨a, xs, rfl, by rw [hK]; exact hsq.symm, ?_⟩
    have hl := hds.length
    have hA : At g E σ ρ (ds.zip xs) w.H (fun M => bindR (r ρ M) fun es M => some (.ok (ds ++ es), M)) (RA g Q) := ⟨w, rfl, ok, sl, fun z hz => by
      have : ∀ {ds : List D} {vs : List V}, DenDs g w ds vs → ∀ p ∈ ds.zip vs, DenD g w p.1 p.2 := by
        intro ds vs q
        induction q with
        | nil => simp
        | cons r t ih =>
          intro p hp
          rcases List.mem_cons.mp hp with rfl | hp
          · exact r
          · exact ih p hp
      exact this hds z hz, r', M', hk, hp⟩
    refine tMA_imp (At.bindA hA) fun vs H2 ⟨es, hes, h2⟩ => ?_
    obtain ⟨w2, e2, ok2, sl2, hΓ2, q⟩ := At.okE (a := ds ++ es) h2
    subst e2
    exact q (xs ++ vs) (denDs_append (zipDen hl fun p hp => hΓ2 p (by simp [hp])) (zipDen hes fun p hp => hΓ2 p (by simp [hp])))
  · cases hk
/-! ### f-texts, join -/
def fmtP : P → Option P
  | .str y => if y.length ≤ sizeLine then some (.str y) else none
  | .int i => if i.natAbs.log2 < 1920 then some (.str (toString i)) else none
  | _ => none
theorem d_fmt {e : Expr} {m : ME} {pos : Pos} (h : PE X e (tM g E m)) : PE X (.FormattedValue e (-1) none pos) (tM g E (eUn (lift1 fmtP) m)) := PE.mono (pe_fmt h) fun σ H Q ⟨ρ, h⟩ => tM_imp (At.bind h) fun x H1 ⟨d, h1⟩ => by
  obtain ⟨w, e1, ok, hd, go⟩ := at_go1 h1
  subst e1
  cases d with
  | own n => exact (go_none go).elim
  | p a =>
    unfold lift1 at go
    simp only at go
    cases a with
    | str y =>
      simp only [fmtP] at go
      by_cases hz : y.length ≤ sizeLine
      · rw [if_pos hz] at go
        have t := then_of go
        exact .inl ⟨y, hd, hz, t.here ok rfl⟩
      · rw [if_neg hz] at go
        exact (go_none go).elim
    | int i =>
      simp only [fmtP] at go
      by_cases hz : i.natAbs.log2 < 1920
      · rw [if_pos hz] at go
        have t := then_of go
        exact .inr ⟨i, hd, hz, t.here ok rfl⟩
      · rw [if_neg hz] at go
        exact (go_none go).elim
    | _ => exact (go_none go).elim
def jsM : List ME → Str → Rho → Mem → Out D
  | [], acc, _, M => some (.ok (.p (.str acc)), M)
  | m :: r, acc, ρ, M => bindR (m ρ M) fun d M => match d with
    | .p (.str y) => if (acc ++ y).length ≤ sizeLine then jsM r (acc ++ y) ρ M else none
    | _ => none
def eJoined (l : List ME) : ME := fun ρ M => jsM l Str.empty ρ M
theorem js_read : ∀ {l : List ME} {acc : Str} {Γ : List (D × V)} {H : Hp} {Q : VK}, At g E σ ρ Γ H (fun M => jsM l acc ρ M) (RV g Q) → tJs (l.map (tM g E)) acc σ H fun out H1 => Q (.str out) H1
  | [], acc, Γ, H, Q, h => by
    obtain ⟨w, e1, ok, sl, hΓ, q⟩ := At.okE (a := D.p (.str acc)) h
    subst e1
    exact q (.str acc) rfl
  | m :: r, acc, Γ, H, Q, h => tM_imp (At.bind h) fun x H1 ⟨d, h1⟩ => by
    have h1' := h1
    obtain ⟨w, e1, ok, sl, hΓ, r', M', hk, hp⟩ := h1
    simp only at hk
    split at hk
    · rename_i y
      split at hk
      · rename_i hz
        refine ⟨y, hΓ (.p (.str y), x) (by simp), hz, js_read (Γ := Γ) ⟨w, e1, ok, sl, fun p hp => hΓ p (by simp [hp]), r', M', hk, hp⟩⟩
      · cases hk
    · cases hk
theorem d_joined {v1 v2 : Expr} {rest : List Expr} {l : List ME} {pos : Pos} (h : PJ X (v1 :: v2 :: rest) (l.map (tM g E))) : PE X (.JoinedStr (v1 :: v2 :: rest) pos) (tM g E (eJoined l)) := PE.mono (pe_joined h) fun σ H Q ⟨ρ, h⟩ => js_read h
def strsP : List P → Option (List Str)
  | [] => some []
  | .str x :: r => (strsP r).map (x :: ·)
  | _ :: _ => none
theorem strs_eq : ∀ {ps : List P} {ys : List Str}, strsP ps = some ys → ps = ys.map .str
  | [], ys, h => by simp [strsP] at h; subst h; rfl
  | .str x :: r, ys, h => by
    unfold strsP at h
    cases hr : strsP r with
    | none => rw [hr] at h; cases h
    | some zs =>
      rw [hr] at h
      have := Option.some.inj h
      subst this
      rw [strs_eq hr]; rfl
  | .non :: _, _, h => by simp [strsP] at h
  | .bl _ :: _, _, h => by simp [strsP] at h
  | .int _ :: _, _, h => by simp [strsP] at h
  | .tup _ :: _, _, h => by simp [strsP] at h
  | .lst _ :: _, _, h => by simp [strsP] at h
  | .obj _ _ :: _, _, h => by simp [strsP] at h
  | .dic _ _ :: _, _, h => by simp [strsP] at h
  | .ty _ :: _, _, h => by simp [strsP] at h
  | .cls _ :: _, _, h => by simp [strsP] at h
@[simp] theorem strs_map (ys : List Str) : strsP (ys.map .str) = some ys := by
  induction ys with
  | nil => rfl
  | cons y r ih => simp [strsP, ih]
theorem den_strs {w : Wd} : ∀ {ys : List Str} {vs : List V}, DenDs g w (ys.map fun y => .p (.str y)) vs → vs = ys.map .str
  | [], _, .nil => rfl
  | y :: ys, _, .cons h1 h2 => by
    rw [den_strs h2, show _ = V.str y from h1]; rfl
def joinD : Om := fun x ds M => match x, ds with
  | .p (.str a), [d] => match itemsD d M with
    | some xs => match allP xs with
      | some ps => match strsP ps with
        | some ys => if (ys.map (·.length)).sum + ys.length * a.length ≤ 16777216 then some (.ok (.p (.str (Txt.join a ys))), M) else none
        | none => none
      | none => none
    | none => none
  | _, _ => none
theorem mm_join (hK : X.K = g.K := by rfl) : MtR X "str.join" (rDm g E joinD) := Svm.op (fun w d ds x xs Q ok h1 h2 go => by
  unfold joinD at go
  split at go
  · rename_i a d1
    split at go
    · rename_i zs hi
      split at go
      · rename_i ps hp
        split at go
        · rename_i ys hy
          split at go
          · rename_i hz
            cases h2 with
            | cons r t =>
              cases t
              obtain ⟨b, vs, rfl, hsq, hds⟩ := items_at ok r hi
              have e := allP_eq hp
              rw [strs_eq hy, List.map_map] at e
              subst e
              have ev := den_strs hds
              subst ev
              exact ⟨a, b, ys, h1, rfl, by rw [hK]; exact hsq, hz, (then_of go).here ok rfl⟩
          · exact (go_none go).elim
        · exact (go_none go).elim
      · exact (go_none go).elim
    · exact (go_none go).elim
  · exact (go_none go).elim) mt_join
/-! ### list(range(..)) -/
def eRgL (m : ME) : ME := fun ρ M => bindR (m ρ M) fun d M => match d with
  | .p (.int n) => if n ≤ 16777216 ∧ 0 ≤ n then some (.ok (.p (.lst ((List.range n.toNat).map fun i => .int (i : Nat)))), M) else none
  | _ => none
def eRgT (m : ME) : ME := fun ρ M => bindR (m ρ M) fun d M => match d with
  | .p (.int n) => if n ≤ 16777216 ∧ 0 ≤ n then some (.ok (.p (.tup ((List.range n.toNat).map fun i => .int (i : Nat)))), M) else none
  | _ => none
theorem rg_den {F : Addr → Prop} {H : Hp} (n : Int) : DenL g F H ((List.range n.toNat).map fun i => .int (i : Nat)) (rgV 0 n) := by
  have e : (List.range n.toNat).map (fun i => P.int (i : Nat)) = ((List.range n.toNat).map fun i => ((i : Nat) : Int)).map .int := by simp
  have e2 : rgV 0 n = ((List.range n.toNat).map fun i => ((i : Nat) : Int)).map V.int := by simp [rgV]
  rw [e, e2]
  exact ints_den _
theorem d_rgL {e : Expr} {m : ME} (h : PE X e (tLstRg (tRg1 (tM g E m)))) : PE X e (tM g E (eRgL m)) := PE.mono h fun σ H Q ⟨ρ, h⟩ => tM_imp (At.bind h) fun x H1 ⟨d, h1⟩ => by
  obtain ⟨w, e1, ok, sl, hΓ, r, M', hk, hp⟩ := h1
  subst e1
  simp only at hk
  split at hk
  · rename_i n
    split at hk
    · rename_i hc
      refine ⟨n, hΓ (.p (.int n), x) (by simp), RgOk.of_le (by omega) (by omega) (by omega) (by omega), ?_⟩
      exact (then_of ⟨r, M', hk, hp⟩).lst ok (rg_den n)
    · cases hk
  · cases hk
theorem d_rgT {e : Expr} {m : ME} (h : PE X e (tTupRg (tRg1 (tM g E m)))) : PE X e (tM g E (eRgT m)) := PE.mono h fun σ H Q ⟨ρ, h⟩ => tM_imp (At.bind h) fun x H1 ⟨d, h1⟩ => by
  obtain ⟨w, e1, ok, sl, hΓ, r, M', hk, hp⟩ := h1
  subst e1
  simp only at hk
  split at hk
  · rename_i n
    split at hk
    · rename_i hc
      refine ⟨n, hΓ (.p (.int n), x) (by simp), RgOk.of_le (by omega) (by omega) (by omega) (by omega), ?_⟩
      exact (then_of ⟨r, M', hk, hp⟩).tup ok (rg_den n)
    · cases hk
  · cases hk
/-! ### two fors -/
theorem d_lc2 {mk : List D → Mem → Out D} (hmk : MkOk g mk) {elt tg iter tg1 iter1 : Expr} {ifs ifs1 : List Expr} {scope : Scope} {own : List (Str × Nat)} {vs1 : List Nat} {pos : Pos} {it it1 : MA} {b b1 : Bd} {t t1 : MT} {e : ME} (hc : X.calm = true) (hN : X.N.Nodup) (hi : PI X tg iter (iM g E it)) (ok : BlkOk X.N X.env.scope scope own) (hv : ∀ i ∈ vs1, i ∈ own.map (·.2))
    (hg : ∀ (s : Shared) (H : Hp) (C : Addr) (cl : List (Str × Addr)) (fp : List Addr), PG (X.blk s H scope (compEnvC scope cl C X.env) fp) tg (gB X.K b)) (ht : ∀ (s : Shared) (H : Hp) (C : Addr) (cl : List (Str × Addr)) (fp : List Addr), PTs (X.blk s H scope (compEnvC scope cl C X.env) fp) ifs (tMT g E0 t))
    (hi1 : ∀ (s : Shared) (H : Hp) (C : Addr) (cl : List (Str × Addr)) (fp : List Addr), PI (X.blk s H scope (compEnvC scope cl C X.env) fp) tg1 iter1 (iM g E0 it1))
    (hg1 : ∀ (s : Shared) (H : Hp) (C : Addr) (cl : List (Str × Addr)) (fp : List Addr), PG (X.blk s H scope (compEnvC scope cl C X.env) fp) tg1 (gB X.K b1)) (ht1 : ∀ (s : Shared) (H : Hp) (C : Addr) (cl : List (Str × Addr)) (fp : List Addr), PTs (X.blk s H scope (compEnvC scope cl C X.env) fp) ifs1 (tMT g E0 t1))
    (he : ∀ (s : Shared) (H : Hp) (C : Addr) (cl : List (Str × Addr)) (fp : List Addr), PE (X.blk s H scope (compEnvC scope cl C X.env) fp) elt (tM g E0 e)) (hbx : ∀ i ∈ b.ix, i ∈ own.map (·.2)) (hbx1 : ∀ i ∈ b1.ix, i ∈ vs1) (hK : X.K = g.K := by rfl) (hs : ∀ x, foldedSetIterable iter X.env x = pure x := by intro _; rfl) (hs1 : ∀ env x, foldedSetIterable iter1 env x = pure x := by intro _ _; rfl) :
    PE X (.ListComp elt [⟨tg, iter, ifs, 0⟩, ⟨tg1, iter1, ifs1, 0⟩] scope pos) (tM g E (eLc2 mk it b t it1 b1 t1 e (own.map (·.2)) vs1)) := PE.mono (pe_lc2 hc hN hi ok hv hg ht hi1 hg1 ht1 he hs hs1) fun σ H Q h => lc2_read hmk hK hbx hbx1 h
end
end DL

set_option maxHeartbeats 4000000
namespace DL
open PySem PySem.Spec PyProof.Rows L2
section
variable {X : Cx} {g : G} {E : XK} {σ : L2.St} {ρ : Rho} {Γ : List (D × V)} {H : Hp}
theorem denD_bl {w : Wd} {b b' : Bool} (e : b = b') : DenD g w (.p (.bl b')) (.bl b) := by subst e; exact rfl
theorem denD_int {w : Wd} {n : Int} : DenD g w (.p (.int n)) (.int n) := rfl
theorem denD_str {w : Wd} {n : Str} : DenD g w (.p (.str n)) (.str n) := rfl
/-- the own def f of the class c, called -/
structure OwnM (X : Cx) (g : G) (c : Str) (name : Str) (k : Nat) (h : Addr) (f : On) : Prop where
  at_ : PySem.W.findIn X.K (.ref (g.ct c)) name = some (some (.ref h))
  fn : PySem.W.isFn X.K (.ref h) = true
  run : FnR X.prog X.w X.K X.mg X.base CX0 k h (SpM g f)
def boolD (o : Out D) (neg : Bool) : Out D := match o with
  | some (.ok (.p (.bl b)), M) => some (.ok (.p (.bl (b != neg))), M)
  | _ => none
def ownIn (c : Str) (f : On) (neg : Bool) : O2 := fun d e M => if insD c e M then boolD (f [e, d] M) neg else none
theorem boolD_eq {o : Out D} {neg : Bool} {r : Res D} {M' : Mem} (h : boolD o neg = some (r, M')) : ∃ b, o = some (.ok (.p (.bl b)), M') ∧ r = .ok (.p (.bl (b != neg))) := by
  unfold boolD at h
  split at h
  · rename_i b M
    have e := Option.some.inj h
    have e1 := congrArg Prod.fst e
    have e2 := congrArg Prod.snd e
    simp only at e1 e2
    subst e1 e2
    exact ⟨b, rfl, rfl⟩
  · cases h
theorem own_call {w : Wd} {k : Nat} {h : Addr} {f : On} {ds : List D} {vs : List V} {us : List Value} {M' : Mem} {d0 : D} {A : Around} {pins : List (Addr × Obj)} {s : Shared} (F : FnR X.prog X.w X.K X.mg X.base CX0 k h (SpM g f)) (hr : Room k A) (e0 : Env0 X.prog X.w X.K X.mg X.base A X.stack s w.H) (I : Inv X pins σ w.H s) (ok : Ok g w) (hd : DenDs g w ds vs) (r : Vals vs us)
    (e : f ds w.M = some (.ok d0, M')) {Q : Value → Shared → Prop} (q : ∀ w' v u s', w'.M = M' → Le w w' → Ok g w' → DenD g w' d0 v → RelV v u → Inv X pins σ w'.H s' → Q u s') : wpAny (model X.prog X.w) A (call (.ref h) us) Q X.xe s := by
  have hs : SpM g f vs w.H (fun v H' => ∃ w', w'.H = H' ∧ w'.M = M' ∧ Le w w' ∧ Ok g w' ∧ DenD g w' d0 v) E0 := ⟨w, ds, rfl, ok, hd, _, _, e, fun w' em l k' v hv => ⟨w', rfl, em, l, k', hv⟩⟩
  refine wpAny_mono (wpAny_call (SlX.run_at (us := us) (ws := vs) F hr e0 (passE (E := E0)) I r hs)) (fun u s' z => ?_) fun _ _ x => x
  obtain ⟨v, H', I', rv, w', rfl, em, l, k', hv⟩ := z
  exact q w' v u s' em l k' hv rv I'
theorem oo_ownIn {c : Str} {k : Nat} {h : Addr} {f : On} (O : OwnM X g c "__contains__" k h f) (hr : Room k X.A) : OpR X (compareOp .In) (rD2 g E (ownIn c f false)) := fun pins s σ H x y v u Q I rx ry ⟨w, d, e, hw, ok, h1, h2, go⟩ => by
  subst hw
  obtain ⟨r, M', hk, hp⟩ := go
  unfold ownIn at hk
  split at hk
  · rename_i hi
    obtain ⟨a, dx, vs, rfl, hs⟩ := insD_at ok hi h2
    cases (show u = Value.ref a from ry)
    obtain ⟨b, hb, rfl⟩ := boolD_eq hk
    obtain ⟨sl, od, _, J, _⟩ := SlX.slt_inst I hs
    obtain ⟨m, hF⟩ := I.fr
    refine PySem.W.in_K hF I.ok.mod.kin J O.at_ O.fn (own_call O.run hr I.env0 I ok (.cons h2 (.cons h1 .nil)) (.cons rfl (.cons rx .nil)) hb fun w' v' u' s' em l k' hv ru I' => ?_)
    have e1 : v' = V.bl b := hv
    subst e1
    cases (show u' = Value.bool b from ru)
    exact wpAny_pure ⟨.bl b, w'.H, I', rfl, hp w' em l k' (.bl b) (denD_bl (by cases b <;> rfl))⟩
  · cases hk
theorem oo_ownNin {c : Str} {k : Nat} {h : Addr} {f : On} (O : OwnM X g c "__contains__" k h f) (hr : Room k X.A) : OpR X (compareOp .NotIn) (rD2 g E (ownIn c f true)) := fun pins s σ H x y v u Q I rx ry ⟨w, d, e, hw, ok, h1, h2, go⟩ => by
  subst hw
  obtain ⟨r, M', hk, hp⟩ := go
  unfold ownIn at hk
  split at hk
  · rename_i hi
    obtain ⟨a, dx, vs, rfl, hs⟩ := insD_at ok hi h2
    cases (show u = Value.ref a from ry)
    obtain ⟨b, hb, rfl⟩ := boolD_eq hk
    obtain ⟨sl, od, _, J, _⟩ := SlX.slt_inst I hs
    obtain ⟨m, hF⟩ := I.fr
    refine PySem.W.notIn_K hF I.ok.mod.kin J O.at_ O.fn (own_call O.run hr I.env0 I ok (.cons h2 (.cons h1 .nil)) (.cons rfl (.cons rx .nil)) hb fun w' v' u' s' em l k' hv ru I' => ?_)
    have e1 : v' = V.bl b := hv
    subst e1
    cases (show u' = Value.bool b from ru)
    exact wpAny_pure ⟨.bl !b, w'.H, I', rfl, hp w' em l k' (.bl !b) (denD_bl (by cases b <;> rfl))⟩
  · cases hk
/-- len(x) -/
def ownLen (c : Str) (f : On) : On := fun ds M => match ds with
  | [d] => if insD c d M then match f [d] M with
      | some (.ok (.p (.int n)), M') => if 0 ≤ n ∧ n < 2 ^ 63 then some (.ok (.p (.int n)), M') else none
      | _ => none
    else none
  | _ => none
theorem cc_ownLen {c : Str} {k : Nat} {h : Addr} {f : On} (O : OwnM X g c "__len__" k h f) (hr : Room (k + 1) X.A) : CallR X (.builtin "len") (rDn g E (ownLen c f)) := fun pins s σ H xs us Q I rx ⟨w, ds, hw, ok, h1, go⟩ => by
  subst hw
  obtain ⟨r, M', hk, hp⟩ := go
  unfold ownLen at hk
  split at hk
  · rename_i d
    split at hk
    · rename_i hi
      split at hk
      · rename_i n M1 hf
        split at hk
        · rename_i hn
          have e := Option.some.inj hk
          have e1 := congrArg Prod.fst e
          have e2 := congrArg Prod.snd e
          simp only at e1 e2
          subst e1 e2
          cases h1 with
          | cons h2 t =>
            cases t
            obtain ⟨a, dx, vs, rfl, hs⟩ := insD_at ok hi h2
            obtain ⟨u, rfl, ru⟩ := rx.one
            cases (show u = Value.ref a from ru)
            obtain ⟨sl, od, _, J, _⟩ := SlX.slt_inst I hs
            obtain ⟨m, hF⟩ := I.fr
            refine PySem.W.len_K hF I.ok.mod.kin J O.at_ O.fn (own_call O.run hr.in1 I.env0.in1 I ok (.cons h2 .nil) (.cons rfl .nil) hf fun w' v' u' s' em l k' hv ru I' => ?_)
            have e1 : v' = V.int n := hv
            subst e1
            obtain ⟨t, e⟩ := (show ∃ t, u' = Value.int n t from ru)
            subst e
            exact ⟨hn, .int n, w'.H, I'.tok _, ⟨_, rfl⟩, hp w' em l k' (.int n) denD_int⟩
        · cases hk
      · cases hk
    · cases hk
  · cases hk
/-- str(x) -/
def ownStr (c : Str) (f : On) : On := fun ds M => match ds with
  | [d] => if insD c d M then match f [d] M with
      | some (.ok (.p (.str n)), M') => some (.ok (.p (.str n)), M')
      | _ => none
    else none
  | _ => none
theorem cc_ownStr {c : Str} {k : Nat} {h : Addr} {f : On} (O : OwnM X g c "__str__" k h f) (hr : Room (k + 2) X.A) : CallR X (.type "str") (rDn g E (ownStr c f)) := fun pins s σ H xs us Q I rx ⟨w, ds, hw, ok, h1, go⟩ => by
  subst hw
  obtain ⟨r, M', hk, hp⟩ := go
  unfold ownStr at hk
  split at hk
  · rename_i d
    split at hk
    · rename_i hi
      split at hk
      · rename_i n M1 hf
        have e := Option.some.inj hk
        have e1 := congrArg Prod.fst e
        have e2 := congrArg Prod.snd e
        simp only at e1 e2
        subst e1 e2
        cases h1 with
        | cons h2 t =>
          cases t
          obtain ⟨a, dx, vs, rfl, hs⟩ := insD_at ok hi h2
          obtain ⟨u, rfl, ru⟩ := rx.one
          cases (show u = Value.ref a from ru)
          obtain ⟨sl, od, _, J, _⟩ := SlX.slt_inst I hs
          have hr2 : Room k X.A.in1.in1 := (show Room (k + 1) X.A.in1 from hr.in1).in1
          refine PySem.W.kso_call hr2.units0 I.kIn J O.at_ O.fn (own_call O.run hr2 I.env0.in1.in1 I ok (.cons h2 .nil) (.cons rfl .nil) hf fun w' v' u' s' em l k' hv ru I' => ?_)
          have e1 : v' = V.str n := hv
          subst e1
          obtain ⟨t, e⟩ := (show ∃ t, u' = Value.str n t from ru)
          subst e
          exact ⟨.str n, w'.H, I', ⟨_, rfl⟩, hp w' em l k' (.str n) denD_str⟩
      · cases hk
    · cases hk
  · cases hk
/-- x == y, x an instance of c -/
def ownCmp (c : Str) (f : On) (tab : String ⊕ Str → Bool) : O2 := fun d e M => if insD c d M then match tyD e M with
    | some t => if tab t then boolD (f [d, e] M) false else none
    | none => none
  else none
theorem oo_ownCmp {op : CmpOp} {c : Str} {k : Nat} {h : Addr} {f : On} {tab : String ⊕ Str → Bool} (hop : ∀ a b, compareOp op a b = richCompare op a b) (O : OwnM X g c (cmpInfo op).2.1 k h f) (T : ∀ t, tab t = true → PySem.W.notFirst X.K (g.ct c) (tyV1 g t) = true) (hr : Room k X.A) (hK : X.K = g.K := by rfl) : OpR X (compareOp op) (rD2 g E (ownCmp c f tab)) := fun pins s σ H x y v u Q I rx ry ⟨w, d, e, hw, ok, h1, h2, go⟩ => by
  subst hw
  obtain ⟨r, M', hk, hp⟩ := go
  unfold ownCmp at hk
  split at hk
  · rename_i hi
    split at hk
    · rename_i t ht
      split at hk
      · rename_i htab
        obtain ⟨a, dx, vs, rfl, hs⟩ := insD_at ok hi h1
        cases (show v = Value.ref a from rx)
        obtain ⟨b, hb, rfl⟩ := boolD_eq hk
        obtain ⟨sl, od, _, J, _⟩ := SlX.slt_inst I hs
        obtain ⟨m, hF⟩ := I.fr
        have lk : PySem.W.Looks (model X.prog X.w) s.heap (typeOf u) (tyV1 g t) := by
          rcases tyD_at ok h2 ht with ⟨n, rfl, hty⟩ | ⟨cl, a', dx', vs', rfl, rfl, hsl⟩
          · obtain ⟨P, kx, hP, _⟩ := kit_of I ry (by rw [hK]; exact hty)
            exact kx.ty _ _ I.kIn hP
          · cases (show u = Value.ref a' from ry)
            obtain ⟨sl', od', _, J', _⟩ := SlX.slt_inst I hsl
            exact J'.type
        rw [hop]
        refine PySem.W.cmp_K (op := op) (tb := tyV1 g t) hr.units0 hF I.ok.mod.kin J lk (T t htab) O.at_ O.fn (own_call O.run hr I.env0 I ok (.cons h1 (.cons h2 .nil)) (.cons rfl (.cons ry .nil)) hb fun w' v' u' s' em l k' hv ru I' => ?_)
        have e1 : v' = V.bl b := hv
        subst e1
        cases (show u' = Value.bool b from ru)
        exact SlX.cmpback (z := .bl b) rfl ⟨.bl b, w'.H, I', rfl, hp w' em l k' (.bl b) (denD_bl (by cases b <;> rfl))⟩
      · cases hk
    · cases hk
  · cases hk
/-! ### sorted of a tuple too -/
def sortedT : On := fun ds M => match ds with
  | [.p (.tup xs)] => match intsP xs with
    | some ns => some (.ok (.p (.lst ((sortI ns).map .int))), M)
    | none => none
  | _ => none
def sortedA : On := fun ds M => orO (sortedF ds M) (sortedT ds M)
theorem cc_sortedT (hK : X.K = g.K := by rfl) : CallR X (.builtin "sorted") (rDn g E sortedT) := Svn.op (fun w ds xs Q k h go => by
  unfold sortedT at go
  split at go
  · rename_i ps
    cases h with
    | cons h1 h2 =>
      cases h2
      split at go
      · rename_i ns hi
        obtain ⟨a, ys, rfl, hq, hd⟩ := tup_at h1
        rw [ints_eq hi] at hd
        rw [den_ints hd] at hq
        refine ⟨a, ns, rfl, by rw [hK]; exact hq, fun ns' p pm so hp => ?_⟩
        have e := sort_one pm so
        subst e
        exact (then_of go).lst k (ints_den _) p hp
      · exact (go_none go).elim
  · exact (go_none go).elim) DLS.cr_sortedT
theorem cc_sortedA (hc : X.calm = true) (hK : X.K = g.K := by rfl) : CallR X (.builtin "sorted") (rDn g E sortedA) := call_or (cc_sorted hc hK) (cc_sortedT hK)
theorem sortedA_of {ds : List D} {M : Mem} {r : Res D × Mem} (h : sortedF ds M = some r) : sortedA ds M = some r := by unfold sortedA; rw [h]; rfl
end
end DL

set_option maxHeartbeats 4000000
theorem L2.Room.u1 {k : Nat} {A : PySem.Around} (r : L2.Room k A) : A.units + 1 < PySem.cLine := by have := r.un; omega
theorem L2.Room.u65 {k : Nat} {A : PySem.Around} (r : L2.Room k A) : A.units + 65 < PySem.cLine := by have := r.un; omega
namespace DL
open PySem PySem.Spec PyProof.Rows L2
def tChn (f f' : O2) (a b c : ME) : MT := fun ρ M => bindR (eChain f f' a b c ρ M) bolD
section
variable {X : Cx} {g : G} {E : XK} {σ : L2.St} {ρ : Rho} {Γ : List (D × V)} {H : Hp}
/-- a, b = e1, e2 by a tuple -/
theorem ds_parC {tg : Expr} {es : List Expr} {i j : Nat} {a : MA} {x1} {pos pos2 : Pos} (he : PA X es (tMA g E a)) (hg : PG X tg (gB X.K (.t [i, j]))) (hs : swapsWithSole [tg] (.Tuple es x1 pos2) pos.line X.env = pure false := by rfl) (hw : swappedStores [tg] (.Tuple es x1 pos2) X.env = pure none := by rfl)
    (h1 : (assignEach [tg] X.env).map (·.2) = [assign tg X.env] := by rfl) : PS X (.Assign [tg] (.Tuple es x1 pos2) pos) (tS g E (sPar i j a)) := PS.mono (ps_asg (pe_tup he) hg hs hw h1) fun Dn σ H ⟨ρ, h⟩ => tMA_imp (At.bindA h) fun vs H1 ⟨ds, hl, h1⟩ => by
  obtain ⟨w, e1, ok, sl, hΓ, r, M', hk, hp⟩ := h1
  subst e1
  match ds, vs, hl with
  | [x, y], [v, u], _ =>
    refine ⟨by rw [sizeLine_eq]; simp, fun p hp0 => ⟨p, [v, u], rfl, .inl (.inl upd_same), rfl, v, [u], rfl, u, [], rfl, rfl, ?_⟩⟩
    have l := lay_le (o := .tup [v, u]) ok hp0
    have k := lay_ok (o := .tup [v, u]) ok hp0
    have hk' : (some (Res.ok (Fl.nx ((ρ.set i (some x)).set j (some y))), (w.lay p (.tup [v, u])).M) : Out Fl) = some (r, M') := hk
    have q := post_ok (a := Fl.nx ((ρ.set i (some x)).set j (some y))) k hk' (hp.mono l)
    exact q _ (paired_set (R := SlotOk g _) (show SlotOk g _ (some y) (some u) from l.denD ok (hΓ (y, u) (by simp))) j (paired_set (R := SlotOk g _) (show SlotOk g _ (some x) (some v) from l.denD ok (hΓ (x, v) (by simp))) i (l.slots ok sl)))
  | [], _, _ => cases hk
  | [_], _, _ => cases hk
  | _ :: _ :: _ :: _, _, _ => cases hk
end
def blkB (N : List Str) (sc scope : Scope) (own : List (Str × Nat)) : Bool := decide (scope.kind = .function) && ((scope.names.all fun y => decide (scope.names.lookup y.1 = some y.2)) && ((own.all fun p => decide (N[p.2]? = some p.1)) &&
  ((scope.names.all fun y => !decide (y.2 = .free) || (decide (sc.names.lookup y.1 = some .cell) || decide (sc.names.lookup y.1 = some .free))) && (scope.names.all fun y => (own.any fun p => decide (p.1 = y.1)) || ((!decide (y.2 = .local) && !decide (y.2 = .cell)) || !(N.any fun z => decide (z = y.1)))))))
theorem blk_ok {N : List Str} {sc scope : Scope} {own : List (Str × Nat)} (h : blkB N sc scope own = true) : BlkOk N sc scope own := by
  obtain ⟨h1, h⟩ := Bool.and_eq_true_iff.mp h
  obtain ⟨h2, h⟩ := Bool.and_eq_true_iff.mp h
  obtain ⟨h3, h⟩ := Bool.and_eq_true_iff.mp h
  obtain ⟨h4, h5⟩ := Bool.and_eq_true_iff.mp h
  refine ⟨of_decide_eq_true h1, fun y hy => of_decide_eq_true (List.all_eq_true.mp h2 y hy), fun p hp => of_decide_eq_true (List.all_eq_true.mp h3 p hp), fun y hy e => ?_, fun y hy e => ?_⟩
  · have := List.all_eq_true.mp h4 y hy
    simpa [e] using this
  · have := List.all_eq_true.mp h5 y hy
    rcases Bool.or_eq_true_iff.mp this with z | z
    · left
      obtain ⟨p, hp, e⟩ := List.any_eq_true.mp z
      exact List.mem_map.mpr ⟨p, hp, of_decide_eq_true e⟩
    · rcases Bool.or_eq_true_iff.mp z with z | z
      · rcases e with e | e <;> simp [e] at z
      · right
        intro hm
        have : (N.any fun z => decide (z = y.1)) = true := List.any_eq_true.mpr ⟨y.1, hm, decide_eq_true rfl⟩
        rw [this] at z
        cases z
/-! ### the head's facts, by tables -/
def mem (s : Stmt) (j : Nat) : Stmt := match s with
  | .ClassDef _ _ _ body _ _ _ _ _ _ _ => body.getD j (.Pass ⟨0, 0, 0, 0⟩)
  | _ => .Pass ⟨0, 0, 0, 0⟩
def gK (K : PySem.W.Frag) : G := ⟨K, fun c => He.ga K c⟩
/-- where a def stands: a global's, a class's method, a property's getter -/
inductive Loc1 where
  | glo (x : Str) | meth (c m : Str) | prop (c m : Str)
def getA (K : PySem.W.Frag) (c m : Str) : Addr := match PySem.W.recIn K (He.ma K (He.ga K c) m) "property" with
  | some (.ref h :: _) => h
  | _ => 0
def Loc1.at_ (K : PySem.W.Frag) : Loc1 → Addr
  | .glo x => He.ga K x
  | .meth c m => He.ma K (He.ga K c) m
  | .prop c m => getA K c m
structure DefX where
  at_ : Loc1
  name : Str
  qual : Str
  params : Arguments
  body : List Stmt
  scope : Scope
  dfl : List He.Dv := []
def fnWX (K : PySem.W.Frag) (a : Addr) : He.FnW := match K.lookup a with
  | some ⟨_, _, .func fd, _⟩ => some (fd.name, fd.qualname, fd.params, fd.body, fd.scope, fd.globals, fd.closure, fd.builtins)
  | _ => none
def DefX.val (d : DefX) : He.FnW := some (d.name, d.qual, d.params, .stmts d.body, d.scope, mainGlobals, [], builtinsNs)
def DefX.dvs (K : PySem.W.Frag) (d : DefX) : List V := d.dfl.map (He.Dv.v K)
def DefX.ok (K : PySem.W.Frag) (d : DefX) : Bool := PySem.W.keepIn K (.ref (d.at_.at_ K)) && (match K.lookup (d.at_.at_ K) with
  | some ⟨_, _, .func fd, _⟩ => PySem.W.codeIn K fd.code d.qual && He.dflB K fd.defaults (d.dvs K)
  | _ => false)
theorem DefX.funD {K : PySem.W.Frag} {d : DefX} (e : fnWX K (d.at_.at_ K) = d.val) (c : d.ok K = true) : ∃ fd, FunD K d.name d.qual d.params d.body d.scope (d.dvs K) [] (d.at_.at_ K) fd := by
  obtain ⟨kp, c2⟩ := He.ba c
  unfold fnWX at e
  cases q : K.lookup (d.at_.at_ K) with
  | none =>
    rw [q] at c2
    cases c2
  | some o =>
    obtain ⟨oc, od, dt, osl⟩ := o
    rw [q] at c2 e
    cases dt with
    | func fd =>
      obtain ⟨n1, n2, n3, n4, n5, n6, n7, n8, n9, n10, n11, n12, n13, n14, n15⟩ := fd
      have e2 : (some (n1, n2, n3, n4, n5, n6, n7, n15) : He.FnW) = some (d.name, d.qual, d.params, .stmts d.body, d.scope, mainGlobals, [], builtinsNs) := e
      simp only [Option.some.injEq, Prod.mk.injEq] at e2
      obtain ⟨h1, h2, h3, h4, h5, h6, h7, h8⟩ := e2
      subst h1 h2 h3 h4 h5 h6 h7 h8
      have c3 : (PySem.W.codeIn K n13 d.qual && He.dflB K n8 (d.dvs K)) = true := c2
      obtain ⟨k1, k2⟩ := He.ba c3
      exact ⟨_, ⟨oc, od, n8, n9, n10, n11, n12, n13, n14, osl, rfl, q, k1, He.dflB_ok k2, He.kwdB_ok (by rfl)⟩, kp⟩
    | _ => cases c2
/-- what a law's slice has: names of functions and classes, free names, ints, classes with slots, properties, methods -/
structure ClsT where
  name : Str
  slots : List Str
  props : List Str
  meths : List Str
structure Tab where
  glos : List Str
  frees : List Str
  consts : List (Str × Int)
  cls : List ClsT
  fns : List DefX
def hasS (xs : List Str) (x : Str) : Bool := xs.any fun y => decide (y = x)
theorem hasS_mem {xs : List Str} {x : Str} (h : hasS xs x = true) : x ∈ xs := by
  obtain ⟨y, hy, e⟩ := List.any_eq_true.mp h
  exact of_decide_eq_true e ▸ hy
def basT : List String := ["NoneType", "bool", "int", "str", "tuple", "list", "dict"]
def hasB (a : String) : Bool := basT.any fun y => decide (y = a)
/-- isinstance, over the classes cs -/
def isiTab (cs : List Str) : String ⊕ Str → String ⊕ Str → Option Bool
  | .inl a, .inl b => if hasB a && hasB b then some (decide (a = b) || (decide (a = "bool") && decide (b = "int"))) else none
  | .inl a, .inr c => if hasB a && hasS cs c then some false else none
  | .inr c, .inl b => if hasS cs c && hasB b then some false else none
  | .inr c, .inr c' => if hasS cs c && hasS cs c' then some (decide (c = c')) else none
def tysT (cs : List Str) : List (String ⊕ Str) := basT.map .inl ++ cs.map .inr
def cmpTab (cs : List Str) : String ⊕ Str → Bool
  | .inl a => hasB a
  | .inr c => hasS cs c
def slotTab (ct : List (Str × List Str)) (f c : Str) : Option Nat := (ct.find? fun p => decide (p.1 = c)).bind fun p => p.2.findIdx? fun x => decide (x = f)
def eqN (a b : Option Nat) : Bool := decide (a = b)
def eqB (a b : Option Bool) : Bool := decide (a = b)
def eqV (a b : Option Value) : Bool := decide (a = b)
def clsB (K : PySem.W.Frag) (c : Str) : Bool := PySem.W.plainGet K (He.ga K c) Str.empty && (PySem.W.isClsIn K (He.ga K c) && (PySem.W.plainOver K (He.ga K c) && He.eqO (PySem.W.findIn K (.ref (He.ga K c)) "__setattr__") (some (some (.builtin "object.__setattr__")))))
def slotB (K : PySem.W.Frag) (c f : Str) (i : Nat) : Bool := He.eqO (PySem.W.findIn K (.ref (He.ga K c)) f) (some (some (.ref (He.ma K (He.ga K c) f)))) && (He.eqO (PySem.W.specialIn K (.ref (He.ma K (He.ga K c) f)) "__get__") (some (some (.builtin "member_descriptor.__get__"))) &&
  (eqB (PySem.W.takesIn K (.ref (He.ma K (He.ga K c) f))) (some true) && (eqV (PySem.W.typeIn K (.ref (He.ma K (He.ga K c) f))) (some (.type "member_descriptor")) && (eqN (PySem.W.slotIn K (He.ma K (He.ga K c) f) (He.ga K c)) (some i) && decide (i < 1000)))))
def propB (K : PySem.W.Frag) (c f : Str) : Bool := He.eqO (PySem.W.findIn K (.ref (He.ga K c)) f) (some (some (.ref (He.ma K (He.ga K c) f)))) && (He.eqO (PySem.W.specialIn K (.ref (He.ma K (He.ga K c) f)) "__get__") (some (some (.builtin "property.__get__"))) &&
  (eqB (PySem.W.takesIn K (.ref (He.ma K (He.ga K c) f))) (some true) && (match PySem.W.recIn K (He.ma K (He.ga K c) f) "property" with
    | some (.ref h :: _) => true
    | _ => false)))
def sisiB (K : PySem.W.Frag) (c : Str) : Bool := He.eqO (PySem.W.findIn K (.ref (He.ga K c)) "__class__") (some (some (.builtin "object.__class__"))) && (He.eqO (PySem.W.specialIn K (.builtin "object.__class__") "__get__") (some (some (.builtin "getset_descriptor.__get__"))) &&
  (eqB (PySem.W.takesIn K (.builtin "object.__class__")) (some true) && eqB (PySem.W.mroIn K (He.ga K c) (.type "object")) (some true)))
def Tab.names (T : Tab) : List Str := T.cls.map (·.name)
def Tab.slots (T : Tab) : List (Str × List Str) := T.cls.map fun c => (c.name, c.slots)
def oneB (K : PySem.W.Frag) (cs : List Str) (t u : String ⊕ Str) : Bool := match isiTab cs t u with
  | some b => eqB (PySem.W.kitOne K (tyV1 (gK K) t) (tyV1 (gK K) u)) (some b)
  | none => true
def Tab.facts (T : Tab) (K : PySem.W.Frag) : Bool :=
  (T.glos.all fun x => (He.Fa.glo x).ok K && PySem.W.keepIn K (.ref (He.ga K x))) && ((T.frees.all fun x => (He.Fa.free x).ok K) && ((T.consts.all fun p => (He.Fa.int p.1 p.2).ok K) &&
  ((T.cls.all fun c => clsB K c.name && (sisiB K c.name && ((He.Fa.mkr c.name).ok K && ((c.slots.zipIdx.all fun p => slotB K c.name p.1 p.2) && ((c.props.all fun p => propB K c.name p) && (c.meths.all fun m => (He.Fa.meth c.name m).ok K)))))) &&
  (((tysT T.names).all fun t => (tysT T.names).all fun u => oneB K T.names t u) && (T.names.all fun c => (tysT T.names).all fun t => PySem.W.notFirst K (He.ga K c) (tyV1 (gK K) t))))))
abbrev AlX : Type := Bool × List He.FnW
/-- no list stands in the written part -/
def noLst (K : PySem.W.Frag) : Bool := K.all fun p => !decide (p.2.cls = Value.type "list")
theorem noLst_at {a : Addr} {o : Obj} : ∀ {K : PySem.W.Frag}, noLst K = true → K.lookup a = some o → o.cls ≠ .type "list"
  | [], _, e => nomatch (show (none : Option Obj) = some o from e)
  | (b, q) :: r, h, e => by
    obtain ⟨h1, h2⟩ := Bool.and_eq_true_iff.mp (show ((!decide (q.cls = Value.type "list")) && noLst r) = true from h)
    have e2 : (match a == b with | true => some q | false => List.lookup a r) = some o := e
    cases hb : a == b with
    | true =>
      rw [hb] at e2
      cases Option.some.inj e2
      intro z
      rw [decide_eq_true z] at h1
      cases h1
    | false =>
      rw [hb] at e2
      exact noLst_at h2 e2
def obsX (T : Tab) (K : PySem.W.Frag) : AlX := ((T.facts K && T.fns.all fun d => d.ok K) && noLst K, T.fns.map fun d => fnWX K (d.at_.at_ K))
def valX (T : Tab) : AlX := (true, T.fns.map DefX.val)
def SaysX (T : Tab) (K : PySem.W.Frag) : Prop := obsX T K = valX T
def obsXG (n : Nat) (T : Tab) (g : Addr → Option Obj) : AlX := obsX T (He.frG g (He.asD g n))
def hookX (n : Nat) (T : Tab) : PySem.W.Hook where
  α := AlX
  obs := fun s => obsXG n T s.heap.get?
  val := fun _ => valX T
  says := fun _ h => ∃ K : PySem.W.Frag, K.In h ∧ SaysX T K
  of := fun _ _ e => ⟨_, He.frG_in, e⟩
  keeps := fun _ _ _ ⟨K, hK, c⟩ k => ⟨K, PySem.W.Frag.In.keeps hK k, c⟩
theorem obsXG_eq {n : Nat} {T : Tab} {g : Addr → Option Obj} {s : Shared} (h : ∀ a, g a = s.heap.get? a) : obsXG n T g = (hookX n T).obs s := by
  have e : g = s.heap.get? := funext h
  rw [e] <;> rfl
/-- what the walk has of the head -/
structure HdX (T : Tab) (K : PySem.W.Frag) (mg : Str → Option Value) : Prop where
  says : SaysX T K
  ns : ∃ h : Heap, K.In h ∧ h.Ns mainGlobals mg
section
variable {T : Tab} {K : PySem.W.Frag} {mg : Str → Option Value}
theorem HdX.says1 (hd : HdX T K mg) : ((T.facts K && T.fns.all fun d => d.ok K) && noLst K) = true := congrArg (fun z : AlX => z.1) hd.says
theorem HdX.facts (hd : HdX T K mg) : T.facts K = true := (He.ba (He.ba hd.says1).1).1
theorem HdX.noL (hd : HdX T K mg) {a : Addr} {o : Obj} (h : K.lookup a = some o) : o.cls ≠ .type "list" := noLst_at (He.ba hd.says1).2 h
theorem HdX.def_ (hd : HdX T K mg) (i : Nat) {d : DefX} (h : T.fns[i]? = some d := by rfl) : ∃ fd, FunD K d.name d.qual d.params d.body d.scope (d.dvs K) [] (d.at_.at_ K) fd := by
  have c2 := (He.ba (He.ba hd.says1).1).2
  have e : T.fns.map (fun d => fnWX K (d.at_.at_ K)) = T.fns.map DefX.val := congrArg (fun z : AlX => z.2) hd.says
  have e2 : (T.fns.map fun d => fnWX K (d.at_.at_ K))[i]? = (T.fns.map DefX.val)[i]? := by rw [e]
  rw [List.getElem?_map, List.getElem?_map, h] at e2
  exact DefX.funD (Option.some.inj e2) (List.all_eq_true.mp c2 d (List.mem_of_getElem? h))
theorem HdX.gloB (hd : HdX T K mg) {x : Str} (hx : hasS T.glos x = true) : (He.Fa.glo x).ok K = true ∧ PySem.W.keepIn K (.ref (He.ga K x)) = true := He.ba (List.all_eq_true.mp (He.ba hd.facts).1 x (hasS_mem hx))
theorem HdX.glo (hd : HdX T K mg) (x : Str) (hx : hasS T.glos x = true := by decide +kernel) : mg x = some (.ref (He.ga K x)) := by
  obtain ⟨h, X, G⟩ := hd.ns
  exact He.glo_ok X G (hd.gloB hx).1
theorem HdX.keep (hd : HdX T K mg) (x : Str) (hx : hasS T.glos x = true := by decide +kernel) : PySem.W.keepIn K (.ref (He.ga K x)) = true := (hd.gloB hx).2
theorem HdX.free (hd : HdX T K mg) (x : Str) (hx : hasS T.frees x = true := by decide +kernel) : mg x = none := by
  obtain ⟨h, X, G⟩ := hd.ns
  exact He.free_ok X G (List.all_eq_true.mp (He.ba (He.ba hd.facts).2).1 x (hasS_mem hx))
theorem HdX.int (hd : HdX T K mg) (x : Str) (i : Int) (hx : (T.consts.any fun p => decide (p.1 = x) && decide (p.2 = i)) = true := by decide +kernel) : ∃ t, mg x = some (.int i t) := by
  obtain ⟨h, X, G⟩ := hd.ns
  obtain ⟨p, hp, e⟩ := List.any_eq_true.mp hx
  obtain ⟨e1, e2⟩ := He.ba e
  have := List.all_eq_true.mp (He.ba (He.ba (He.ba hd.facts).2).2).1 p hp
  rw [of_decide_eq_true e1, of_decide_eq_true e2] at this
  exact He.int_ok X G this
theorem HdX.clsF (hd : HdX T K mg) {c : ClsT} (hc : c ∈ T.cls) : (clsB K c.name && (sisiB K c.name && ((He.Fa.mkr c.name).ok K && ((c.slots.zipIdx.all fun p => slotB K c.name p.1 p.2) && ((c.props.all fun p => propB K c.name p) && (c.meths.all fun m => (He.Fa.meth c.name m).ok K)))))) = true :=
  List.all_eq_true.mp (He.ba (He.ba (He.ba (He.ba hd.facts).2).2).2).1 c hc
theorem HdX.nameF (hd : HdX T K mg) {c : Str} (hc : hasS T.names c = true) : ∃ ct ∈ T.cls, ct.name = c := by
  have := hasS_mem hc
  obtain ⟨ct, h1, h2⟩ := List.mem_map.mp this
  exact ⟨ct, h1, h2⟩
theorem HdX.clsC (hd : HdX T K mg) {c : Str} (hc : hasS T.names c = true) : SlX.SCls K (He.ga K c) ∧ SlX.SIsi K (He.ga K c) := by
  obtain ⟨ct, h1, rfl⟩ := hd.nameF hc
  obtain ⟨a1, a2⟩ := He.ba (hd.clsF h1)
  obtain ⟨b1, b2⟩ := He.ba a1
  obtain ⟨b3, b4⟩ := He.ba b2
  obtain ⟨b5, b6⟩ := He.ba b4
  obtain ⟨c1, c2⟩ := He.ba (He.ba a2).1
  obtain ⟨c3, c4⟩ := He.ba c2
  obtain ⟨c5, c6⟩ := He.ba c4
  exact ⟨⟨b1, b3, b5, He.eqO_ok b6⟩, ⟨He.eqO_ok c1, He.eqO_ok c3, of_decide_eq_true c5, of_decide_eq_true c6⟩⟩
theorem HdX.cls (hd : HdX T K mg) (c : Str) (hc : hasS T.names c = true := by decide +kernel) : SlX.SCls K ((gK K).ct c) := (hd.clsC hc).1
theorem slotTab_at {ct : List (Str × List Str)} {f c : Str} {i : Nat} (h : slotTab ct f c = some i) : ∃ p ∈ ct, p.1 = c ∧ p.2[i]? = some f := by
  unfold slotTab at h
  cases hf : ct.find? fun p => decide (p.1 = c) with
  | none => rw [hf] at h; cases h
  | some p =>
    rw [hf] at h
    have h' : p.2.findIdx? (fun x => decide (x = f)) = some i := h
    have hq := List.find?_some hf
    refine ⟨p, List.mem_of_find?_eq_some hf, by simpa using hq, ?_⟩
    obtain ⟨hl, hx, _⟩ := List.findIdx?_eq_some_iff_getElem.mp h'
    rw [List.getElem?_eq_getElem hl, of_decide_eq_true hx]
theorem HdX.slot (hd : HdX T K mg) (f : Str) : SlotTab (gK K) f (slotTab T.slots f) := by
  intro c i h
  obtain ⟨p, hp, rfl, hi⟩ := slotTab_at h
  obtain ⟨ct, h1, rfl⟩ := List.mem_map.mp hp
  obtain ⟨a1, a2⟩ := He.ba (hd.clsF h1)
  obtain ⟨b1, b2⟩ := He.ba a1
  obtain ⟨b3, b4⟩ := He.ba b2
  obtain ⟨b5, b6⟩ := He.ba b4
  refine ⟨⟨b1, b3, b5, He.eqO_ok b6⟩, ?_⟩
  have s := List.all_eq_true.mp (He.ba (He.ba (He.ba a2).2).2).1 (f, i) (by rw [List.mem_zipIdx_iff_getElem?]; exact hi)
  obtain ⟨s1, s⟩ := He.ba s
  obtain ⟨s2, s⟩ := He.ba s
  obtain ⟨s3, s⟩ := He.ba s
  obtain ⟨s4, s⟩ := He.ba s
  obtain ⟨s5, s6⟩ := He.ba s
  exact ⟨_, ⟨He.eqO_ok s1, He.eqO_ok s2, of_decide_eq_true s3, of_decide_eq_true s4, of_decide_eq_true s5, of_decide_eq_true s6⟩⟩
theorem HdX.memF (hd : HdX T K mg) {c m : Str} (h : (T.cls.any fun t => decide (t.name = c) && hasS t.meths m) = true) : (He.Fa.meth c m).ok K = true := by
  obtain ⟨t, ht, e⟩ := List.any_eq_true.mp h
  obtain ⟨e1, e2⟩ := He.ba e
  have e1 := of_decide_eq_true e1
  subst e1
  exact List.all_eq_true.mp (He.ba (He.ba (He.ba (He.ba (He.ba (hd.clsF ht)).2).2).2).2).2 m (hasS_mem e2)
theorem HdX.meth (hd : HdX T K mg) (c m : Str) (h : (T.cls.any fun t => decide (t.name = c) && hasS t.meths m) = true := by decide +kernel) : Meth K ((gK K).ct c) m ((Loc1.meth c m).at_ K) := by
  obtain ⟨a, b⟩ := He.ba (hd.memF h)
  obtain ⟨b1, b2⟩ := He.ba b
  exact ⟨He.eqO_ok a, b1, b2⟩
theorem HdX.own (hd : HdX T K mg) (c m : Str) (h : (T.cls.any fun t => decide (t.name = c) && hasS t.meths m) = true := by decide +kernel) : PySem.W.findIn K (.ref ((gK K).ct c)) m = some (some (.ref ((Loc1.meth c m).at_ K))) := (hd.meth c m h).at_
theorem HdX.ownF (hd : HdX T K mg) (c m : Str) (h : (T.cls.any fun t => decide (t.name = c) && hasS t.meths m) = true := by decide +kernel) : PySem.W.isFn K (.ref ((Loc1.meth c m).at_ K)) = true := (hd.meth c m h).fn
theorem HdX.mkC (hd : HdX T K mg) (c : Str) (hc : hasS T.names c = true := by decide +kernel) : Mk K ((gK K).ct c) ((Loc1.meth c "__init__").at_ K) := by
  obtain ⟨ct, h1, rfl⟩ := hd.nameF hc
  obtain ⟨m1, m⟩ := He.ba (He.ba (He.ba (He.ba (hd.clsF h1)).2).2).1
  obtain ⟨m2, m⟩ := He.ba m
  obtain ⟨m3, m4⟩ := He.ba m
  exact ⟨m1, He.eqO_ok m2, m3, m4⟩
theorem HdX.propF (hd : HdX T K mg) {c m : Str} (h : (T.cls.any fun t => decide (t.name = c) && hasS t.props m) = true) : propB K c m = true := by
  obtain ⟨t, ht, e⟩ := List.any_eq_true.mp h
  obtain ⟨e1, e2⟩ := He.ba e
  have e1 := of_decide_eq_true e1
  subst e1
  exact List.all_eq_true.mp (He.ba (He.ba (He.ba (He.ba (He.ba (hd.clsF ht)).2).2).2).2).1 m (hasS_mem e2)
theorem HdX.prA (hd : HdX T K mg) (c m : Str) (h : (T.cls.any fun t => decide (t.name = c) && hasS t.props m) = true := by decide +kernel) : PySem.W.findIn K (.ref ((gK K).ct c)) m = some (some (.ref (He.ma K (He.ga K c) m))) := He.eqO_ok (He.ba (hd.propF h)).1
theorem HdX.prG (hd : HdX T K mg) (c m : Str) (h : (T.cls.any fun t => decide (t.name = c) && hasS t.props m) = true := by decide +kernel) : PySem.W.specialIn K (.ref (He.ma K (He.ga K c) m)) "__get__" = some (some (.builtin "property.__get__")) := He.eqO_ok (He.ba (He.ba (hd.propF h)).2).1
theorem HdX.prT (hd : HdX T K mg) (c m : Str) (h : (T.cls.any fun t => decide (t.name = c) && hasS t.props m) = true := by decide +kernel) : PySem.W.takesIn K (.ref (He.ma K (He.ga K c) m)) = some true := of_decide_eq_true (He.ba (He.ba (He.ba (hd.propF h)).2).2).1
theorem HdX.prR (hd : HdX T K mg) (c m : Str) (h : (T.cls.any fun t => decide (t.name = c) && hasS t.props m) = true := by decide +kernel) : ∃ rest, PySem.W.recIn K (He.ma K (He.ga K c) m) "property" = some (.ref ((Loc1.prop c m).at_ K) :: rest) := by
  have := (He.ba (He.ba (He.ba (hd.propF h)).2).2).2
  show ∃ rest, PySem.W.recIn K (He.ma K (He.ga K c) m) "property" = some (Value.ref (getA K c m) :: rest)
  unfold getA
  split at this
  · rename_i h' rest e
    rw [e]
    exact ⟨rest, rfl⟩
  · cases this
theorem mem_tys {cs : List Str} {t : String ⊕ Str} (h : cmpTab cs t = true) : t ∈ tysT cs := by
  unfold tysT
  cases t with
  | inl a =>
    refine List.mem_append_left _ (List.mem_map.mpr ⟨a, ?_, rfl⟩)
    obtain ⟨y, hy, e⟩ := List.any_eq_true.mp (show (basT.any fun y => decide (y = a)) = true from h)
    exact of_decide_eq_true e ▸ hy
  | inr c => exact List.mem_append_right _ (List.mem_map.mpr ⟨c, hasS_mem h, rfl⟩)
theorem isi_tys {cs : List Str} {t u : String ⊕ Str} {b : Bool} (h : isiTab cs t u = some b) : cmpTab cs t = true ∧ cmpTab cs u = true := by
  cases t <;> cases u <;> simp only [isiTab] at h <;> split at h <;> first | cases h | skip
  all_goals (rename_i hc; exact He.ba hc)
theorem HdX.nf (hd : HdX T K mg) (c : Str) (hc : hasS T.names c = true := by decide +kernel) : ∀ t, cmpTab T.names t = true → PySem.W.notFirst K ((gK K).ct c) (tyV1 (gK K) t) = true := fun t ht =>
  List.all_eq_true.mp (List.all_eq_true.mp (He.ba (He.ba (He.ba (He.ba (He.ba hd.facts).2).2).2).2).2 c (hasS_mem hc)) t (mem_tys ht)
theorem HdX.isi (hd : HdX T K mg) : IsiTab (gK K) (isiTab T.names) where
  one := fun t u b h => by
    obtain ⟨h1, h2⟩ := isi_tys h
    have := List.all_eq_true.mp (List.all_eq_true.mp (He.ba (He.ba (He.ba (He.ba (He.ba hd.facts).2).2).2).2).1 t (mem_tys h1)) u (mem_tys h2)
    unfold oneB at this
    rw [h] at this
    exact of_decide_eq_true this
  cls := fun c u b h => hd.clsC (isi_tys h).1
end
end DL

set_option maxHeartbeats 4000000
namespace DL
open PySem PySem.Spec PyProof.Rows L2
/-! ### the law's end -/
def scrM (ns : List Int) : Mem := [.scr (ns.map fun i => .p (.int i))]
theorem end_of {T : Tab} {K : PySem.W.Frag} {mg : Str → Option Value} (hd : HdX T K mg) {m : On} {H : Hp} {a : Addr} {ns : List Int} (hS : SqL K H a (ns.map V.int))
    (h : ∃ M', m [.own 0] (scrM ns) = some (.ok (.p (.bl true)), M')) (E : XK) : SpM (gK K) m [.ref a] H (fun v _ => v = .bl true) E := by
  obtain ⟨M', hm⟩ := h
  have hr : Rd H a (.lst (ns.map V.int)) := by
    rcases hS with h | ⟨o, its, n, h1, h2, _⟩
    · exact h
    · exact absurd h2 (hd.noL h1)
  let w : Wd := ⟨fun _ => False, [(a, a)], scrM ns, H⟩
  have hden : ∀ ns : List Int, DenDs (gK K) w (ns.map fun i => .p (.int i)) (ns.map V.int) := by
    intro ns
    induction ns with
    | nil => exact .nil
    | cons n r ih => exact .cons rfl ih
  have ok : Ok (gK K) w := {
    len := rfl
    nd := fun i j p q hi hj hne => by
      have h1 := (List.getElem?_eq_some_iff.mp hi).1
      have h2 := (List.getElem?_eq_some_iff.mp hj).1
      simp [w] at h1 h2
      omega
    fdom := fun _ f => f.elim
    disj := fun _ _ f => f
    own := fun i p o h1 h2 => by
      have hi := (List.getElem?_eq_some_iff.mp h1).1
      have hi0 : i = 0 := by simp [w] at hi; omega
      subst hi0
      cases Option.some.inj h1
      cases Option.some.inj h2
      exact ⟨rfl, _, hr, hden ns⟩ }
  refine ⟨w, [.own 0], rfl, ok, .cons ⟨a, a, rfl, rfl⟩ .nil, _, M', hm, fun w' _ _ _ v hv => ?_⟩
  exact hv
end DL

set_option maxHeartbeats 4000000
namespace DL
open PySem PySem.Spec PyProof.Rows L2
/-! ### evaluation of mirrors, applied -/
section
variable {ρ : Rho} {M : Mem}
def getR (ρ : Rho) (i : Nat) : Option D := match ρ[i]? with
  | some (some d) => some d
  | _ => none
@[simp] theorem getR_nil {i : Nat} : getR [] i = none := by simp [getR]
@[simp] theorem getR_z {x : Option D} {r : Rho} : getR (x :: r) 0 = x := by cases x <;> simp [getR]
@[simp] theorem getR_s {x : Option D} {r : Rho} {i : Nat} : getR (x :: r) (i + 1) = getR r i := by simp [getR]
@[simp] theorem eVar_ap {i : Nat} : eVar i ρ M = match getR ρ i with
  | some d => some (.ok d, M)
  | none => none := by
  unfold eVar getR
  cases h : ρ[i]? with
  | none => rfl
  | some x => cases x <;> rfl
theorem eVar_at {i : Nat} {d : D} (h : getR ρ i = some d) : eVar i ρ M = some (.ok d, M) := by rw [eVar_ap, h]
@[simp] theorem eC_ap {c : P} : eC c ρ M = some (.ok (.p c), M) := rfl
@[simp] theorem eOp_ap {f : O2} {a b : ME} : eOp f a b ρ M = bindR (a ρ M) fun x M => bindR (b ρ M) fun y M => f x y M := rfl
@[simp] theorem eUn_ap {f : O1} {a : ME} : eUn f a ρ M = bindR (a ρ M) fun x M => f x M := rfl
@[simp] theorem aNil_ap : aNil ρ M = some (.ok [], M) := rfl
@[simp] theorem aCons_ap {a : ME} {r : MA} : aCons a r ρ M = bindR (a ρ M) fun x M => bindR (r ρ M) fun xs M => some (.ok (x :: xs), M) := rfl
@[simp] theorem eAnd_ap {a b : ME} : eAnd a b ρ M = bindR (a ρ M) fun x M => match truD x M with
  | some c => if c then b ρ M else some (.ok x, M)
  | none => none := rfl
@[simp] theorem eOr_ap {a b : ME} : eOr a b ρ M = bindR (a ρ M) fun x M => match truD x M with
  | some c => if c then some (.ok x, M) else b ρ M
  | none => none := rfl
@[simp] theorem eIf_ap {t : MT} {a b : ME} : eIf t a b ρ M = bindR (t ρ M) fun c M => if c then a ρ M else b ρ M := rfl
@[simp] theorem eDisp_ap {mk : On} {a : MA} : eDisp mk a ρ M = bindR (a ρ M) mk := rfl
@[simp] theorem eCall_ap {f : On} {a : MA} : eCall f a ρ M = bindR (a ρ M) fun ds M => noX (f ds M) := rfl
@[simp] theorem eCallB_ap {f : On} {a : MA} : eCallB f a ρ M = bindR (a ρ M) f := rfl
@[simp] theorem eChain_ap {f f' : O2} {a b c : ME} : eChain f f' a b c ρ M = bindR (a ρ M) fun x M => bindR (b ρ M) fun y M => bindR (f x y M) fun z M => match z with
  | .p (.bl t) => if t then bindR (c ρ M) fun u M => f' y u M else some (.ok (.p (.bl false)), M)
  | _ => none := by
  unfold eChain
  congr 1
  funext x M
  congr 1
  funext y M
  congr 1
  funext z M
  cases z with
  | own n => rfl
  | p v =>
    cases v <;> first | rfl | skip
    rename_i t
    cases t <;> rfl
@[simp] theorem tChn_ap {f f' : O2} {a b c : ME} : tChn f f' a b c ρ M = bindR (eChain f f' a b c ρ M) bolD := rfl
@[simp] theorem tCmp_ap {f : O2} {a b : ME} : tCmp f a b ρ M = bindR (eOp f a b ρ M) bolD := rfl
@[simp] theorem tru_ap {m : ME} : tru m ρ M = bindR (m ρ M) fun d M => match truD d M with
  | some b => some (.ok b, M)
  | none => none := rfl
@[simp] theorem tNotM_ap {t : MT} : tNotM t ρ M = bindR (t ρ M) fun b M => some (.ok (!b), M) := rfl
@[simp] theorem tAndM_ap {t u : MT} : tAndM t u ρ M = bindR (t ρ M) fun b M => if b then u ρ M else some (.ok false, M) := rfl
@[simp] theorem tOrM_ap {t u : MT} : tOrM t u ρ M = bindR (t ρ M) fun b M => if b then some (.ok true, M) else u ρ M := rfl
@[simp] theorem tYesM_ap : tYesM ρ M = some (.ok true, M) := rfl
@[simp] theorem eSlice_ap {m : ME} {lo hi : MO_} : eSlice m lo hi ρ M = bindR (m ρ M) fun x M => bindR (lo ρ M) fun l M => bindR (hi ρ M) fun h M => sliceD x l h M := rfl
@[simp] theorem oNone_ap : oNone ρ M = some (.ok none, M) := rfl
@[simp] theorem oSome_ap {m : ME} : oSome m ρ M = bindR (m ρ M) fun d M => match d with
  | .p (.int i) => some (.ok (some i), M)
  | _ => none := rfl
@[simp] theorem eLc_ap {mk : List D → Mem → Out D} {it : MA} {b : Bd} {t : MT} {e : ME} {vs : List Nat} : eLc mk it b t e vs ρ M = bindR (it ρ M) fun ds M => bindR (lcGo b t e (wipeR ρ vs) ds M) mk := rfl
@[simp] theorem eLc2_ap {mk : List D → Mem → Out D} {it : MA} {b : Bd} {t : MT} {it1 : MA} {b1 : Bd} {t1 : MT} {e : ME} {vs vs1 : List Nat} : eLc2 mk it b t it1 b1 t1 e vs vs1 ρ M = bindR (it ρ M) fun ds M => bindR (lc2Go b t it1 b1 t1 e vs1 (wipeR ρ vs) ds M) mk := rfl
@[simp] theorem aSeq_ap {m : ME} : aSeq m ρ M = bindR (m ρ M) fun d M => match d with
  | .p (.lst xs) => some (.ok (xs.map .p), M)
  | .p (.tup xs) => some (.ok (xs.map .p), M)
  | _ => none := rfl
@[simp] theorem aRng1_ap {a : MA} : aRng1 a ρ M = bindR (a ρ M) fun ds M => match ds with
  | [.p (.int j)] => if -(2 ^ 62) ≤ j ∧ j < 2 ^ 62 then some (.ok (rngD 0 j), M) else none
  | _ => none := rfl
@[simp] theorem aRng2_ap {a : MA} : aRng2 a ρ M = bindR (a ρ M) fun ds M => match ds with
  | [.p (.int i), .p (.int j)] => if -(2 ^ 62) ≤ i ∧ i < 2 ^ 62 ∧ -(2 ^ 62) ≤ j ∧ j < 2 ^ 62 then some (.ok (rngD i j), M) else none
  | _ => none := rfl
@[simp] theorem aEnum_ap {a : MA} : aEnum a ρ M = bindR (a ρ M) fun ds M => match ds with
  | [.p (.lst xs)] => some (.ok (enumP xs), M)
  | [.p (.tup xs)] => some (.ok (enumP xs), M)
  | _ => none := rfl
@[simp] theorem aZip_ap {a : MA} : aZip a ρ M = bindR (a ρ M) fun ds M => match ds with
  | [.p (.lst xs), .p (.lst ys)] => some (.ok (zipP xs ys), M)
  | [.p (.tup xs), .p (.tup ys)] => some (.ok (zipP xs ys), M)
  | _ => none := rfl
@[simp] theorem aStar_ap {m : ME} {r : MA} : aStar m r ρ M = bindR (m ρ M) fun d M => match itemsD d M with
  | some ds => bindR (r ρ M) fun es M => some (.ok (ds ++ es), M)
  | none => none := rfl
@[simp] theorem eMeth_ap {c : Str} {f : On} {o : ME} {a : MA} : eMeth c f o a ρ M = bindR (o ρ M) fun x M => if insD c x M then bindR (a ρ M) fun ds M => noX (f (x :: ds) M) else none := rfl
@[simp] theorem eProp_ap {c : Str} {f : On} {o : ME} : eProp c f o ρ M = bindR (o ρ M) fun x M => if insD c x M then noX (f [x] M) else none := rfl
@[simp] theorem eBm_ap {is : D → Mem → Bool} {f : Om} {o : ME} {a : MA} : eBm is f o a ρ M = bindR (o ρ M) fun x M => if is x M then bindR (a ρ M) fun ds M => f x ds M else none := rfl
@[simp] theorem eRgL_ap {m : ME} : eRgL m ρ M = bindR (m ρ M) fun d M => match d with
  | .p (.int n) => if n ≤ 16777216 ∧ 0 ≤ n then some (.ok (.p (.lst ((List.range n.toNat).map fun i => .int (i : Nat)))), M) else none
  | _ => none := rfl
@[simp] theorem eNewP_ap : eNewP ρ M = some (.ok (.p (.dic [] [])), M) := rfl
@[simp] theorem eNewD_ap : eNewD ρ M = some (.ok (.own M.length), M ++ [.dic [] []]) := rfl
@[simp] theorem eDict_ap {l : List (ME × ME)} : eDict l ρ M = bindR (pPairs l ρ (M ++ [.dic [] []])) (dicEnd M.length) := rfl
@[simp] theorem eJoined_ap {l : List ME} : eJoined l ρ M = jsM l Str.empty ρ M := rfl
@[simp] theorem sSeq_ap {a b : MS} : sSeq a b ρ M = bindR (a ρ M) fun fl M => match fl with
  | .nx ρ' => b ρ' M
  | .ret d => some (.ok (.ret d), M)
  | .brk ρ' => some (.ok (.brk ρ'), M)
  | .ct ρ' => some (.ok (.ct ρ'), M) := rfl
@[simp] theorem sNop_ap : sNop ρ M = some (.ok (.nx ρ), M) := rfl
@[simp] theorem sBreak_ap : sBreak ρ M = some (.ok (.brk ρ), M) := rfl
@[simp] theorem sCont_ap : sCont ρ M = some (.ok (.ct ρ), M) := rfl
@[simp] theorem sRet_ap {m : ME} : sRet m ρ M = bindR (m ρ M) fun d M => some (.ok (.ret d), M) := rfl
@[simp] theorem sRetN_ap : sRetN ρ M = some (.ok (.ret (.p .non)), M) := rfl
@[simp] theorem sExpr_ap {m : ME} : sExpr m ρ M = bindR (m ρ M) fun _ M => some (.ok (.nx ρ), M) := rfl
@[simp] theorem sIf_ap {t : MT} {a b : MS} : sIf t a b ρ M = bindR (t ρ M) fun c M => if c then a ρ M else b ρ M := rfl
@[simp] theorem sAsgN_ap {i : Nat} {m : ME} : sAsg (.n i) m ρ M = bindR (m ρ M) fun d M => some (.ok (.nx (ρ.set i (some d))), M) := rfl
@[simp] theorem sAsgT_ap {is : List Nat} {m : ME} : sAsg (.t is) m ρ M = bindR (m ρ M) fun d M => match bindB (.t is) d ρ with
  | some ρ' => some (.ok (.nx ρ'), M)
  | none => none := rfl
@[simp] theorem sPar_ap {i j : Nat} {a : MA} : sPar i j a ρ M = bindR (a ρ M) fun ds M => match ds with
  | [x, y] => some (.ok (.nx ((ρ.set i (some x)).set j (some y))), M)
  | _ => none := rfl
@[simp] theorem sFor_ap {it : MA} {b : Bd} {body : MS} : sFor it b body ρ M = bindR (it ρ M) fun ds M => forGo b body ds ρ M := rfl
@[simp] theorem sSub_ap {mo mi mv : ME} : sSub mo mi mv ρ M = bindR (mv ρ M) fun v M => bindR (mo ρ M) fun o M => bindR (mi ρ M) fun i M => match o, i with
  | .own n, .p (.int k) => match M[n]? with
    | some (.lst xs) => match ixN xs.length k with
      | some j => some (.ok (.nx ρ), M.set n (.lst (xs.set j v)))
      | none => none
    | _ => none
  | _, _ => none := rfl
@[simp] theorem sPut_ap {mo mi mv : ME} : sPut mo mi mv ρ M = bindR (mv ρ M) fun v M => bindR (mo ρ M) fun o M => bindR (mi ρ M) fun i M => match o, keyD i with
  | .own n, some k => match M[n]? with
    | some (.dic ks ds) => if ks.Nodup ∧ ks.length < sizeLine then some (.ok (.nx ρ), M.set n (.dic (keysPut ks k) (valsPut ks ds k v))) else none
    | _ => none
  | _, _ => none := rfl
@[simp] theorem sSlot_ap {tab : Str → Option Nat} {mo mv : ME} : sSlot tab mo mv ρ M = bindR (mv ρ M) fun y M => bindR (mo ρ M) fun x M => match x with
  | .own n => match M[n]? with
    | some (.ins c fs) => match tab c with
      | some i => some (.ok (.nx ρ), M.set n (.ins c (putD i y fs)))
      | none => none
    | _ => none
  | _ => none := rfl
theorem fnM_ap {k n : Nat} {m : MS} {ds : List D} (h : ds.length = k) : fnM k n m ds M = bindR (m (startR n ds) M) fun fl M => match fl with
    | .ret d => some (.ok d, M)
    | .nx _ => some (.ok (.p .non), M)
    | _ => none := by unfold fnM; rw [if_pos h] <;> rfl
@[simp] theorem liftn_ap {f : List P → Option P} {ps : List P} : liftn f (ps.map .p) M = match f ps with
    | some c => some (.ok (.p c), M)
    | none => none := by unfold liftn; rw [allP_map] <;> rfl
@[simp] theorem lift2_ap {f : P → P → Option P} {a b : P} : lift2 f (.p a) (.p b) M = match f a b with
    | some c => some (.ok (.p c), M)
    | none => none := rfl
@[simp] theorem lift1_ap {f : P → Option P} {a : P} : lift1 f (.p a) M = match f a with
    | some c => some (.ok (.p c), M)
    | none => none := rfl
@[simp] theorem look2_pp {f : P → P → Option P} {a b : P} : look2 f (.p a) (.p b) M = match f a b with
    | some c => some (.ok (.p c), M)
    | none => none := rfl
end
def finR (o : Out Fl) : Out D := bindR o fun fl M => match fl with
    | .ret d => some (.ok d, M)
    | .nx _ => some (.ok (.p .non), M)
    | _ => none
@[simp] theorem finR_ret {d : D} {M : Mem} : finR (some (.ok (.ret d), M)) = some (.ok d, M) := rfl
@[simp] theorem finR_nx {ρ : Rho} {M : Mem} : finR (some (.ok (.nx ρ), M)) = some (.ok (.p .non), M) := rfl
@[simp] theorem finR_none : finR none = none := rfl
theorem fnM1 {n : Nat} {m : MS} {a : D} {M : Mem} : fnM 1 n m [a] M = finR (m (some a :: List.replicate (n - 1) none) M) := rfl
theorem fnM2 {n : Nat} {m : MS} {a b : D} {M : Mem} : fnM 2 n m [a, b] M = finR (m (some a :: some b :: List.replicate (n - 2) none) M) := rfl
theorem fnM3 {n : Nat} {m : MS} {a b c : D} {M : Mem} : fnM 3 n m [a, b, c] M = finR (m (some a :: some b :: some c :: List.replicate (n - 3) none) M) := rfl
theorem fnM4 {n : Nat} {m : MS} {a b c d : D} {M : Mem} : fnM 4 n m [a, b, c, d] M = finR (m (some a :: some b :: some c :: some d :: List.replicate (n - 4) none) M) := rfl
@[simp] theorem intP2_ii {f : Int → Int → Option P} {i j : Int} : intP2 f (.int i) (.int j) = f i j := rfl
@[simp] theorem negP_i {i : Int} : negP (.int i) = some (.int (-i)) := rfl
@[simp] theorem addP_ii {i j : Int} : addP (.int i) (.int j) = some (.int (i + j)) := rfl
@[simp] theorem truD_bl {b : Bool} {M : Mem} : truD (.p (.bl b)) M = some b := rfl
@[simp] theorem bolD_bl {b : Bool} {M : Mem} : bolD (.p (.bl b)) M = some (.ok b, M) := rfl
@[simp] theorem notD_bl {b : Bool} {M : Mem} : notD (.p (.bl b)) M = some (.ok (.p (.bl !b)), M) := rfl
@[simp] theorem lenO_tup {xs : List P} {M : Mem} : lenO [.p (.tup xs)] M = some (.ok (.p (.int xs.length)), M) := by simp [lenO, lenD, itemsD]
@[simp] theorem lenO_lst {xs : List P} {M : Mem} : lenO [.p (.lst xs)] M = some (.ok (.p (.int xs.length)), M) := by simp [lenO, lenD, itemsD]
@[simp] theorem liftn1 {f : List P → Option P} {a : P} {M : Mem} : liftn f [.p a] M = match f [a] with
    | some c => some (.ok (.p c), M)
    | none => none := rfl
@[simp] theorem liftn2 {f : List P → Option P} {a b : P} {M : Mem} : liftn f [.p a, .p b] M = match f [a, b] with
    | some c => some (.ok (.p c), M)
    | none => none := rfl
@[simp] theorem liftn3 {f : List P → Option P} {a b e : P} {M : Mem} : liftn f [.p a, .p b, .p e] M = match f [a, b, e] with
    | some c => some (.ok (.p c), M)
    | none => none := rfl
@[simp] theorem one_1 {f : P → Option P} {a : P} : one f [a] = f a := rfl
@[simp] theorem two_1 {f : P → P → Option P} {a b : P} : two f [a, b] = f a b := rfl
@[simp] theorem allF_l {bs : List Bool} : allF (.lst (bs.map .bl)) = some (.bl (bs.all id)) := by simp [allF]
@[simp] theorem anyF_l {bs : List Bool} : anyF (.lst (bs.map .bl)) = some (.bl (bs.any id)) := by simp [anyF]
@[simp] theorem tupleF_l {xs : List P} {M : Mem} : tupleF [.p (.lst xs)] M = some (.ok (.p (.tup xs)), M) := by simp [tupleF, itemsL, itemsD, allP_map]
@[simp] theorem tupleF_t {xs : List P} {M : Mem} : tupleF [.p (.tup xs)] M = some (.ok (.p (.tup xs)), M) := by simp [tupleF, itemsL, itemsD, allP_map]
@[simp] theorem bindN {i : Nat} {d : D} {ρ : Rho} : bindB (.n i) d ρ = some (ρ.set i (some d)) := rfl
@[simp] theorem bindT {is : List Nat} {ps : List P} {ρ : Rho} : bindB (.t is) (.p (.tup ps)) ρ = if ps.length = is.length then some (putL is ps ρ) else none := rfl
@[simp] theorem putL_nil {ps : List P} {ρ : Rho} : putL [] ps ρ = ρ := by cases ps <;> rfl
@[simp] theorem putL_cons {i : Nat} {is : List Nat} {p : P} {ps : List P} {ρ : Rho} : putL (i :: is) (p :: ps) ρ = putL is ps (ρ.set i (some (.p p))) := rfl
@[simp] theorem wipeR_nil {ρ : Rho} : wipeR ρ [] = ρ := rfl
@[simp] theorem wipeR_cons {v : Nat} {vs : List Nat} {ρ : Rho} : wipeR ρ (v :: vs) = (wipeR ρ vs).set v none := rfl
/-- pure functions, nothing left behind -/
theorem pure0 {m : On} {F : List P → Option P} (h : ∀ ps c, F ps = some c → ∀ M, m (ps.map .p) M = some (.ok (.p c), M)) : ∀ ps c, F ps = some c → ∀ M, ∃ extra d0, m (ps.map .p) M = some (.ok d0, M ++ extra) ∧ Frz M.length extra d0 c :=
  fun ps c e M => ⟨[], .p c, by rw [List.append_nil]; exact h ps c e M, .inl rfl⟩
/-! ### comprehensions, loops -/
theorem lcGo_pure {b : Bd} {t : MT} {e : ME} {ρ : Rho} {c : D → Bool} {f : D → D} : ∀ (ds : List D) (M : Mem), (∀ d ∈ ds, ∃ ρ1, bindB b d ρ = some ρ1 ∧ t ρ1 M = some (.ok (c d), M) ∧ (c d = true → e ρ1 M = some (.ok (f d), M))) →
    lcGo b t e ρ ds M = some (.ok ((ds.filter c).map f), M)
  | [], M, _ => rfl
  | d :: ds, M, h => by
    obtain ⟨ρ1, h1, h2, h3⟩ := h d (by simp)
    have ih := lcGo_pure ds M fun d hd => h d (by simp [hd])
    unfold lcGo
    rw [h1]
    simp only [h2, noX_ok, bindR_ok]
    cases hc : c d with
    | false => simp [ih, hc]
    | true => simp [h3 hc, ih, hc]
theorem lcGo_map {b : Bd} {e : ME} {ρ : Rho} {f : D → D} (ds : List D) (M : Mem) (h : ∀ d ∈ ds, ∃ ρ1, bindB b d ρ = some ρ1 ∧ e ρ1 M = some (.ok (f d), M)) : lcGo b tYesM e ρ ds M = some (.ok (ds.map f), M) := by
  have := lcGo_pure (b := b) (t := tYesM) (e := e) (ρ := ρ) (c := fun _ => true) (f := f) ds M fun d hd => by
    obtain ⟨ρ1, h1, h2⟩ := h d hd
    exact ⟨ρ1, h1, rfl, fun _ => h2⟩
  rw [this, List.filter_eq_self.mpr (by simp)]
/-- over data, given as a list of some kind -/
theorem lcGo_mapP {α : Type} {b : Bd} {e : ME} {ρ : Rho} {i : α → D} {f : α → P} (xs : List α) (M : Mem) (h : ∀ x ∈ xs, ∃ ρ1, bindB b (i x) ρ = some ρ1 ∧ e ρ1 M = some (.ok (.p (f x)), M)) : lcGo b tYesM e ρ (xs.map i) M = some (.ok ((xs.map f).map .p), M) := by
  induction xs with
  | nil => rfl
  | cons x xs ih =>
    obtain ⟨ρ1, h1, h2⟩ := h x (by simp)
    have ih := ih fun y hy => h y (by simp [hy])
    show lcGo b tYesM e ρ (i x :: xs.map i) M = _
    unfold lcGo
    rw [h1]
    simp only [tYesM_ap, noX_ok, bindR_ok, if_true, h2, ih]
    rfl
theorem lcGo_filP {α : Type} {b : Bd} {t : MT} {e : ME} {ρ : Rho} {i : α → D} {c : α → Bool} {f : α → P} (xs : List α) (M : Mem) (h : ∀ x ∈ xs, ∃ ρ1, bindB b (i x) ρ = some ρ1 ∧ t ρ1 M = some (.ok (c x), M) ∧ (c x = true → e ρ1 M = some (.ok (.p (f x)), M))) : lcGo b t e ρ (xs.map i) M = some (.ok (((xs.filter c).map f).map .p), M) := by
  induction xs with
  | nil => rfl
  | cons x xs ih =>
    obtain ⟨ρ1, h1, h2, h3⟩ := h x (by simp)
    have ih := ih fun y hy => h y (by simp [hy])
    show lcGo b t e ρ (i x :: xs.map i) M = _
    unfold lcGo
    rw [h1]
    simp only [h2, noX_ok, bindR_ok]
    cases hc : c x with
    | false => simp [ih, hc]
    | true => simp [h3 hc, ih, hc]
theorem mkL_p {ps : List P} {M : Mem} (h : ps.length ≤ sizeLine) : mkL (ps.map .p) M = some (.ok (.p (.lst ps)), M) := by
  unfold mkL
  rw [allP_map]
  simp only
  rw [if_pos h]
theorem mkT_p {ps : List P} {M : Mem} (h : ps.length ≤ sizeLine) : mkT (ps.map .p) M = some (.ok (.p (.tup ps)), M) := by
  unfold mkT
  rw [allP_map]
  simp only
  rw [if_pos h]
@[simp] theorem sortedA_l {ns : List Int} {M : Mem} : sortedA [.p (.lst (ns.map .int))] M = some (.ok (.p (.lst ((sortI ns).map .int))), M) := sortedA_of (by simp [sortedF, intsOf])
@[simp] theorem sortedA_t {ns : List Int} {M : Mem} : sortedA [.p (.tup (ns.map .int))] M = some (.ok (.p (.lst ((sortI ns).map .int))), M) := by
  simp [sortedA, sortedF, intsOf, sortedT]
/-! ### evaluation as derivations -/
section
variable {ρ ρ' : Rho} {M M1 M2 M3 : Mem} {d x y z : D} {ds : List D}
theorem eOp_at {f : O2} {a b : ME} {r : Out D} (ha : a ρ M = some (.ok x, M1)) (hb : b ρ M1 = some (.ok y, M2)) (hf : f x y M2 = r) : eOp f a b ρ M = r := by rw [eOp_ap, ha, bindR_ok, hb, bindR_ok, hf]
theorem eUn_at {f : O1} {a : ME} {r : Out D} (ha : a ρ M = some (.ok x, M1)) (hf : f x M1 = r) : eUn f a ρ M = r := by rw [eUn_ap, ha, bindR_ok, hf]
theorem aCons_at {a : ME} {r : MA} (ha : a ρ M = some (.ok x, M1)) (hr : r ρ M1 = some (.ok ds, M2)) : aCons a r ρ M = some (.ok (x :: ds), M2) := by rw [aCons_ap, ha, bindR_ok, hr, bindR_ok]
theorem a1_at {a : ME} (ha : a ρ M = some (.ok x, M1)) : aCons a aNil ρ M = some (.ok [x], M1) := aCons_at ha aNil_ap
theorem a2_at {a b : ME} (ha : a ρ M = some (.ok x, M1)) (hb : b ρ M1 = some (.ok y, M2)) : aCons a (aCons b aNil) ρ M = some (.ok [x, y], M2) := aCons_at ha (a1_at hb)
theorem a3_at {a b c : ME} (ha : a ρ M = some (.ok x, M1)) (hb : b ρ M1 = some (.ok y, M2)) (hc : c ρ M2 = some (.ok z, M3)) : aCons a (aCons b (aCons c aNil)) ρ M = some (.ok [x, y, z], M3) := aCons_at ha (a2_at hb hc)
theorem eCall_at {f : On} {a : MA} (ha : a ρ M = some (.ok ds, M1)) (hf : f ds M1 = some (.ok d, M2)) : eCall f a ρ M = some (.ok d, M2) := by rw [eCall_ap, ha, bindR_ok, hf, noX_ok]
theorem eCallB_at {f : On} {a : MA} {r : Out D} (ha : a ρ M = some (.ok ds, M1)) (hf : f ds M1 = r) : eCallB f a ρ M = r := by rw [eCallB_ap, ha, bindR_ok, hf]
theorem eDisp_at {f : On} {a : MA} {r : Out D} (ha : a ρ M = some (.ok ds, M1)) (hf : f ds M1 = r) : eDisp f a ρ M = r := by rw [eDisp_ap, ha, bindR_ok, hf]
theorem eMeth_at {c : Str} {f : On} {o : ME} {a : MA} (ho : o ρ M = some (.ok x, M1)) (hi : insD c x M1 = true) (ha : a ρ M1 = some (.ok ds, M2)) (hf : f (x :: ds) M2 = some (.ok d, M3)) : eMeth c f o a ρ M = some (.ok d, M3) := by rw [eMeth_ap, ho, bindR_ok, if_pos hi, ha, bindR_ok, hf, noX_ok]
theorem eProp_at {c : Str} {f : On} {o : ME} (ho : o ρ M = some (.ok x, M1)) (hi : insD c x M1 = true) (hf : f [x] M1 = some (.ok d, M2)) : eProp c f o ρ M = some (.ok d, M2) := by rw [eProp_ap, ho, bindR_ok, if_pos hi, hf, noX_ok]
theorem eBm_at {is : D → Mem → Bool} {f : Om} {o : ME} {a : MA} {r : Out D} (ho : o ρ M = some (.ok x, M1)) (hi : is x M1 = true) (ha : a ρ M1 = some (.ok ds, M2)) (hf : f x ds M2 = r) : eBm is f o a ρ M = r := by rw [eBm_ap, ho, bindR_ok, if_pos hi, ha, bindR_ok, hf]
theorem eAnd_t {a b : ME} {r : Out D} (ha : a ρ M = some (.ok x, M1)) (ht : truD x M1 = some true) (hb : b ρ M1 = r) : eAnd a b ρ M = r := by rw [eAnd_ap, ha, bindR_ok, ht]; simpa using hb
theorem eAnd_f {a b : ME} (ha : a ρ M = some (.ok x, M1)) (ht : truD x M1 = some false) : eAnd a b ρ M = some (.ok x, M1) := by rw [eAnd_ap, ha, bindR_ok, ht]; rfl
theorem eOr_f {a b : ME} {r : Out D} (ha : a ρ M = some (.ok x, M1)) (ht : truD x M1 = some false) (hb : b ρ M1 = r) : eOr a b ρ M = r := by rw [eOr_ap, ha, bindR_ok, ht]; simpa using hb
theorem eOr_t {a b : ME} (ha : a ρ M = some (.ok x, M1)) (ht : truD x M1 = some true) : eOr a b ρ M = some (.ok x, M1) := by rw [eOr_ap, ha, bindR_ok, ht]; rfl
theorem eIf_t {t : MT} {a b : ME} {r : Out D} (ht : t ρ M = some (.ok true, M1)) (ha : a ρ M1 = r) : eIf t a b ρ M = r := by rw [eIf_ap, ht, bindR_ok, if_pos rfl, ha]
theorem eIf_f {t : MT} {a b : ME} {r : Out D} (ht : t ρ M = some (.ok false, M1)) (hb : b ρ M1 = r) : eIf t a b ρ M = r := by rw [eIf_ap, ht, bindR_ok, if_neg Bool.false_ne_true, hb]
theorem tCmp_at {f : O2} {a b : ME} {c : Bool} (ha : a ρ M = some (.ok x, M1)) (hb : b ρ M1 = some (.ok y, M2)) (hf : f x y M2 = some (.ok (.p (.bl c)), M3)) : tCmp f a b ρ M = some (.ok c, M3) := by rw [tCmp_ap, eOp_at ha hb hf, bindR_ok, bolD_bl]
theorem tru_at {a : ME} {c : Bool} (ha : a ρ M = some (.ok x, M1)) (ht : truD x M1 = some c) : tru a ρ M = some (.ok c, M1) := by rw [tru_ap, ha, bindR_ok, ht]
theorem tNot_at {t : MT} {c : Bool} (ht : t ρ M = some (.ok c, M1)) : tNotM t ρ M = some (.ok (!c), M1) := by rw [tNotM_ap, ht, bindR_ok]
theorem tAnd_t {t u : MT} {r : Out Bool} (ht : t ρ M = some (.ok true, M1)) (hu : u ρ M1 = r) : tAndM t u ρ M = r := by rw [tAndM_ap, ht, bindR_ok, if_pos rfl, hu]
theorem tAnd_f {t u : MT} (ht : t ρ M = some (.ok false, M1)) : tAndM t u ρ M = some (.ok false, M1) := by rw [tAndM_ap, ht, bindR_ok, if_neg Bool.false_ne_true]
theorem tOr_f {t u : MT} {r : Out Bool} (ht : t ρ M = some (.ok false, M1)) (hu : u ρ M1 = r) : tOrM t u ρ M = r := by rw [tOrM_ap, ht, bindR_ok, if_neg Bool.false_ne_true, hu]
theorem tOr_t {t u : MT} (ht : t ρ M = some (.ok true, M1)) : tOrM t u ρ M = some (.ok true, M1) := by rw [tOrM_ap, ht, bindR_ok, if_pos rfl]
theorem sSeq_at {a b : MS} {r : Out Fl} (h : a ρ M = some (.ok (.nx ρ'), M1)) (hb : b ρ' M1 = r) : sSeq a b ρ M = r := by rw [sSeq_ap, h, bindR_ok]; exact hb
theorem sSeq_r {a b : MS} (h : a ρ M = some (.ok (.ret d), M1)) : sSeq a b ρ M = some (.ok (.ret d), M1) := by rw [sSeq_ap, h, bindR_ok]
theorem sRet_at {m : ME} (h : m ρ M = some (.ok d, M1)) : sRet m ρ M = some (.ok (.ret d), M1) := by rw [sRet_ap, h, bindR_ok]
theorem sExpr_at {m : ME} (h : m ρ M = some (.ok d, M1)) : sExpr m ρ M = some (.ok (.nx ρ), M1) := by rw [sExpr_ap, h, bindR_ok]
theorem sIf_t {t : MT} {a b : MS} {r : Out Fl} (ht : t ρ M = some (.ok true, M1)) (ha : a ρ M1 = r) : sIf t a b ρ M = r := by rw [sIf_ap, ht, bindR_ok, if_pos rfl, ha]
theorem sIf_f {t : MT} {a b : MS} {r : Out Fl} (ht : t ρ M = some (.ok false, M1)) (hb : b ρ M1 = r) : sIf t a b ρ M = r := by rw [sIf_ap, ht, bindR_ok, if_neg Bool.false_ne_true, hb]
theorem sAsg_at {i : Nat} {m : ME} (h : m ρ M = some (.ok d, M1)) : sAsg (.n i) m ρ M = some (.ok (.nx (ρ.set i (some d))), M1) := by rw [sAsgN_ap, h, bindR_ok]
theorem sFor_at {it : MA} {b : Bd} {body : MS} {r : Out Fl} (h : it ρ M = some (.ok ds, M1)) (hf : forGo b body ds ρ M1 = r) : sFor it b body ρ M = r := by rw [sFor_ap, h, bindR_ok, hf]
theorem fin_r {o : Out Fl} (h : o = some (.ok (.ret d), M1)) : finR o = some (.ok d, M1) := by rw [h]; rfl
theorem fin_n {o : Out Fl} (h : o = some (.ok (.nx ρ'), M1)) : finR o = some (.ok (.p .non), M1) := by rw [h]; rfl
theorem liftn_at {f : List P → Option P} {ps : List P} {c : P} (h : f ps = some c) : liftn f (ps.map .p) M = some (.ok (.p c), M) := by rw [liftn_ap, h]
theorem lift2_at {f : P → P → Option P} {a b c : P} (h : f a b = some c) : lift2 f (.p a) (.p b) M = some (.ok (.p c), M) := by rw [lift2_ap, h]
theorem look2_at {f : P → P → Option P} {a b c : P} (h : f a b = some c) : look2 f (.p a) (.p b) M = some (.ok (.p c), M) := by rw [look2_pp, h]
end
end DL

set_option maxHeartbeats 4000000
namespace DL
open PySem PySem.Spec PyProof.Rows L2
/-! ### plain data -/
mutual
def datB : Nat → P → Bool
  | _, .non => true
  | _, .bl _ => true
  | _, .int _ => true
  | _, .str x => PyData.canLay0 (.str x)
  | d + 1, .tup xs => datL d xs
  | d + 1, .lst xs => datL d xs
  | _, _ => false
def datL : Nat → List P → Bool
  | _, [] => true
  | d, x :: xs => datB d x && datL d xs
end
mutual
theorem dat_lay : ∀ (d : Nat) (p : P), datB d p = true → (toPy p).canLay0 = true ∧ (toPy p).depth ≤ d
  | _, .non, _ => ⟨rfl, Nat.zero_le _⟩
  | _, .bl _, _ => ⟨rfl, Nat.zero_le _⟩
  | _, .int _, _ => ⟨rfl, Nat.zero_le _⟩
  | _, .str _, h => ⟨by simpa [datB, toPy] using h, Nat.zero_le _⟩
  | 0, .tup xs, h => by simp [datB] at h
  | 0, .lst xs, h => by simp [datB] at h
  | d + 1, .tup xs, h => by
    obtain ⟨h1, h2⟩ := dat_layL d xs (by simpa [datB] using h)
    exact ⟨by simpa [toPy, PyData.canLay0] using h1, by simp only [toPy, PyData.depth]; omega⟩
  | d + 1, .lst xs, h => by
    obtain ⟨h1, h2⟩ := dat_layL d xs (by simpa [datB] using h)
    exact ⟨by simpa [toPy, PyData.canLay0] using h1, by simp only [toPy, PyData.depth]; omega⟩
  | d, .obj _ _, h => by cases d <;> simp [datB] at h
  | d, .dic _ _, h => by cases d <;> simp [datB] at h
  | d, .ty _, h => by cases d <;> simp [datB] at h
  | d, .cls _, h => by cases d <;> simp [datB] at h
theorem dat_layL : ∀ (d : Nat) (ps : List P), datL d ps = true → PyData.canLayAll0 (toPyL ps) = true ∧ PyData.depthAll (toPyL ps) ≤ d
  | _, [], _ => ⟨rfl, Nat.zero_le _⟩
  | d, x :: xs, h => by
    obtain ⟨h1, h2⟩ := Bool.and_eq_true_iff.mp (show (datB d x && datL d xs) = true by simpa [datL] using h)
    obtain ⟨a1, a2⟩ := dat_lay d x h1
    obtain ⟨b1, b2⟩ := dat_layL d xs h2
    exact ⟨by simp [toPyL, PyData.canLayAll0, a1, b1], by simp only [toPyL, PyData.depthAll]; omega⟩
end
theorem sh_dat {d : Nat} {p : P} (h : datB d p = true) (hd : d ≤ 64 := by decide) : shP p = true := by
  obtain ⟨h1, h2⟩ := dat_lay d p h
  show ((toPy p).canLay0 && decide ((toPy p).depth ≤ 64)) = true
  rw [h1, decide_eq_true (by omega : (toPy p).depth ≤ 64)]
  rfl
theorem datL_all {d : Nat} : ∀ {ps : List P}, datL d ps = ps.all (datB d)
  | [] => by simp [datL]
  | x :: xs => by simp [datL, datL_all (ps := xs)]
theorem dat_ints {d : Nat} (ns : List Int) : datL d (ns.map .int) = true := by
  rw [datL_all, List.all_eq_true]
  intro x hx
  obtain ⟨n, _, rfl⟩ := List.mem_map.mp hx
  simp [datB]
theorem dat_tupI {d : Nat} (ns : List Int) : datB (d + 1) (.tup (ns.map .int)) = true := by simp [datB, dat_ints]
theorem dat_lstI {d : Nat} (ns : List Int) : datB (d + 1) (.lst (ns.map .int)) = true := by simp [datB, dat_ints]
theorem dat_map {α : Type} {d : Nat} {f : α → P} {xs : List α} (h : ∀ x ∈ xs, datB d (f x) = true) : datL d (xs.map f) = true := by
  rw [datL_all, List.all_eq_true]
  intro y hy
  obtain ⟨x, hx, rfl⟩ := List.mem_map.mp hy
  exact h x hx
@[simp] theorem eqv_int {i j : Int} : PyData.eqv (.int i) (.int j) = decide (i = j) := by
  simp only [PyData.eqv]
  by_cases h : i = j <;> simp [h]
mutual
theorem eqv_self : ∀ (d : Nat) (p : P), datB d p = true → PyData.eqv (toPy p) (toPy p) = true
  | _, .non, _ => by simp [toPy, PyData.eqv]
  | _, .bl _, _ => by simp [toPy, PyData.eqv]
  | _, .int _, _ => by simp [toPy, PyData.eqv]
  | _, .str _, _ => by simp [toPy, PyData.eqv]
  | 0, .tup xs, h => by simp [datB] at h
  | 0, .lst xs, h => by simp [datB] at h
  | d + 1, .tup xs, h => by
    simp only [toPy, PyData.eqv]
    exact eqv_selfL d xs (by simpa [datB] using h)
  | d + 1, .lst xs, h => by
    simp only [toPy, PyData.eqv]
    exact eqv_selfL d xs (by simpa [datB] using h)
  | d, .obj _ _, h => by cases d <;> simp [datB] at h
  | d, .dic _ _, h => by cases d <;> simp [datB] at h
  | d, .ty _, h => by cases d <;> simp [datB] at h
  | d, .cls _, h => by cases d <;> simp [datB] at h
theorem eqv_selfL : ∀ (d : Nat) (ps : List P), datL d ps = true → PyData.eqvAll (toPyL ps) (toPyL ps) = true
  | _, [], _ => by simp [toPyL, PyData.eqvAll]
  | d, x :: xs, h => by
    obtain ⟨h1, h2⟩ := Bool.and_eq_true_iff.mp (show (datB d x && datL d xs) = true by simpa [datL] using h)
    simp only [toPyL, PyData.eqvAll, eqv_self d x h1, eqv_selfL d xs h2, Bool.and_self]
end
theorem eq_self {d : Nat} {p : P} (h : datB d p = true) (hd : d ≤ 64 := by decide) : eqP p p = some (.bl true) := by
  unfold eqP
  rw [sh_dat h hd, eqv_self d p h]
  rfl
theorem ne_self {d : Nat} {p : P} (h : datB d p = true) (hd : d ≤ 64 := by decide) : neP p p = some (.bl false) := by
  unfold neP
  rw [sh_dat h hd, eqv_self d p h]
  rfl
theorem eqP_dat {d : Nat} {p q : P} (h : datB d p = true) (h' : datB d q = true) (hd : d ≤ 64 := by decide) : eqP p q = some (.bl (PyData.eqv (toPy p) (toPy q))) := by
  unfold eqP
  rw [sh_dat h hd, sh_dat h' hd]
  rfl
theorem neP_dat {d : Nat} {p q : P} (h : datB d p = true) (h' : datB d q = true) (hd : d ≤ 64 := by decide) : neP p q = some (.bl (!PyData.eqv (toPy p) (toPy q))) := by
  unfold neP
  rw [sh_dat h hd, sh_dat h' hd]
  rfl
@[simp] theorem eqP_ii {i j : Int} : eqP (.int i) (.int j) = some (.bl (decide (i = j))) := by
  rw [eqP_dat (d := 0) (by simp [datB]) (by simp [datB])]
  simp [toPy]
@[simp] theorem neP_ii {i j : Int} : neP (.int i) (.int j) = some (.bl (!decide (i = j))) := by
  rw [neP_dat (d := 0) (by simp [datB]) (by simp [datB])]
  simp [toPy]
theorem inL_int {i : Int} {ns : List Int} : inL (.int i) (ns.map .int) = decide (i ∈ ns) := by
  unfold inL
  induction ns with
  | nil => simp
  | cons n r ih =>
    rw [List.map_cons, List.any_cons, ih]
    simp only [toPy, eqv_int]
    by_cases h : n = i
    · subst h; simp
    · have h' : ¬ i = n := fun e => h e.symm
      simp [h, h']
@[simp] theorem inP_it {i : Int} {ns : List Int} : inP (.int i) (.tup (ns.map .int)) = some (.bl (decide (i ∈ ns))) := by
  unfold inP
  simp only
  rw [sh_dat (d := 1) (p := .int i) (by simp [datB]), sh_dat (d := 1) (dat_tupI ns), inL_int]
  rfl
@[simp] theorem inP_il {i : Int} {ns : List Int} : inP (.int i) (.lst (ns.map .int)) = some (.bl (decide (i ∈ ns))) := by
  unfold inP
  simp only
  rw [sh_dat (d := 1) (p := .int i) (by simp [datB]), sh_dat (d := 1) (dat_lstI ns), inL_int]
  rfl
@[simp] theorem ninP_it {i : Int} {ns : List Int} : ninP (.int i) (.tup (ns.map .int)) = some (.bl (!decide (i ∈ ns))) := by
  unfold ninP
  simp only
  rw [sh_dat (d := 1) (p := .int i) (by simp [datB]), sh_dat (d := 1) (dat_tupI ns), inL_int]
  rfl
@[simp] theorem ninP_il {i : Int} {ns : List Int} : ninP (.int i) (.lst (ns.map .int)) = some (.bl (!decide (i ∈ ns))) := by
  unfold ninP
  simp only
  rw [sh_dat (d := 1) (p := .int i) (by simp [datB]), sh_dat (d := 1) (dat_lstI ns), inL_int]
  rfl
theorem eqvAll_ints : ∀ {xs ys : List Int}, PyData.eqvAll (toPyL (xs.map .int)) (toPyL (ys.map .int)) = decide (xs = ys)
  | [], [] => by simp [toPyL, PyData.eqvAll]
  | [], _ :: _ => by simp [toPyL, PyData.eqvAll]
  | _ :: _, [] => by simp [toPyL, PyData.eqvAll]
  | x :: xs, y :: ys => by
    simp only [List.map_cons, toPyL, toPy, PyData.eqvAll, eqv_int, eqvAll_ints, List.cons.injEq]
    by_cases h : x = y <;> by_cases h' : xs = ys <;> simp [h, h']
@[simp] theorem eqP_tt {xs ys : List Int} : eqP (.tup (xs.map .int)) (.tup (ys.map .int)) = some (.bl (decide (xs = ys))) := by
  rw [eqP_dat (d := 1) (dat_tupI xs) (dat_tupI ys)]
  simp only [toPy, PyData.eqv, eqvAll_ints]
@[simp] theorem eqP_ll {xs ys : List Int} : eqP (.lst (xs.map .int)) (.lst (ys.map .int)) = some (.bl (decide (xs = ys))) := by
  rw [eqP_dat (d := 1) (dat_lstI xs) (dat_lstI ys)]
  simp only [toPy, PyData.eqv, eqvAll_ints]
@[simp] theorem neP_tt {xs ys : List Int} : neP (.tup (xs.map .int)) (.tup (ys.map .int)) = some (.bl (!decide (xs = ys))) := by
  rw [neP_dat (d := 1) (dat_tupI xs) (dat_tupI ys)]
  simp only [toPy, PyData.eqv, eqvAll_ints]
@[simp] theorem neP_ll {xs ys : List Int} : neP (.lst (xs.map .int)) (.lst (ys.map .int)) = some (.bl (!decide (xs = ys))) := by
  rw [neP_dat (d := 1) (dat_lstI xs) (dat_lstI ys)]
  simp only [toPy, PyData.eqv, eqvAll_ints]
/-- rows of ints -/
def rowsP (hs : List (List Int)) : P := .tup (hs.map fun r => .tup (r.map .int))
theorem dat_rows {d : Nat} (hs : List (List Int)) : datB (d + 2) (rowsP hs) = true := by
  show datL (d + 1) (hs.map fun r => .tup (r.map .int)) = true
  exact dat_map fun r _ => dat_tupI r
theorem eqvAll_rows : ∀ {xs ys : List (List Int)}, PyData.eqvAll (toPyL (xs.map fun r => .tup (r.map .int))) (toPyL (ys.map fun r => .tup (r.map .int))) = decide (xs = ys)
  | [], [] => by simp [toPyL, PyData.eqvAll]
  | [], _ :: _ => by simp [toPyL, PyData.eqvAll]
  | _ :: _, [] => by simp [toPyL, PyData.eqvAll]
  | x :: xs, y :: ys => by
    simp only [List.map_cons, toPyL, toPy, PyData.eqvAll, PyData.eqv, eqvAll_ints, eqvAll_rows, List.cons.injEq]
    by_cases h : x = y <;> by_cases h' : xs = ys <;> simp [h, h']
theorem eqv_rows {xs ys : List (List Int)} : PyData.eqv (toPy (rowsP xs)) (toPy (rowsP ys)) = decide (xs = ys) := by
  simp only [rowsP, toPy, PyData.eqv, eqvAll_rows]
@[simp] theorem eqP_rows {xs ys : List (List Int)} : eqP (rowsP xs) (rowsP ys) = some (.bl (decide (xs = ys))) := by
  rw [eqP_dat (d := 2) (dat_rows xs) (dat_rows ys), eqv_rows]
end DL

set_option maxHeartbeats 4000000
namespace DL
open PySem PySem.Spec PyProof.Rows L2
/-! ### what is wanted of a run's end -/
def wp {α : Type} (o : Out α) (Q : α → Mem → Prop) : Prop := ∃ a M', o = some (.ok a, M') ∧ Q a M'
section
variable {α β : Type}
theorem wp_ok {a : α} {M : Mem} {Q : α → Mem → Prop} : wp (some (.ok a, M)) Q ↔ Q a M := by
  constructor
  · rintro ⟨a', M', e, q⟩
    have e1 := Option.some.inj e
    have e2 : Res.ok a = Res.ok a' := congrArg Prod.fst e1
    have e3 : M = M' := congrArg Prod.snd e1
    cases e2
    subst e3
    exact q
  · exact fun q => ⟨a, M, rfl, q⟩
theorem wp_none {Q : α → Mem → Prop} : wp (none : Out α) Q ↔ False := ⟨fun ⟨_, _, e, _⟩ => (by cases e), fun h => h.elim⟩
theorem wp_bind {o : Out α} {k : α → Mem → Out β} {Q : β → Mem → Prop} : wp (bindR o k) Q ↔ wp o fun a M => wp (k a M) Q := by
  match o with
  | none => exact ⟨fun h => (wp_none.mp h).elim, fun h => (wp_none.mp h).elim⟩
  | some (.ok a, M) => rw [wp_ok]; exact Iff.rfl
  | some (.exc c fs, M) => exact ⟨fun ⟨_, _, e, _⟩ => (by cases e), fun ⟨_, _, e, _⟩ => by cases e⟩
theorem wp_noX {o : Out α} {Q : α → Mem → Prop} : wp (noX o) Q ↔ wp o Q := by
  match o with
  | none => exact Iff.rfl
  | some (.ok a, M) => exact Iff.rfl
  | some (.exc c fs, M) => exact ⟨fun ⟨_, _, e, _⟩ => (by cases e), fun ⟨_, _, e, _⟩ => by cases e⟩
theorem wp_mono {o : Out α} {Q Q' : α → Mem → Prop} (h : wp o Q) (q : ∀ a M, Q a M → Q' a M) : wp o Q' := let ⟨a, M, e, z⟩ := h; ⟨a, M, e, q a M z⟩
theorem wp_post {o : Out α} {Q Q' : α → Mem → Prop} (q : ∀ a M, Q a M ↔ Q' a M) : wp o Q ↔ wp o Q' := ⟨fun h => wp_mono h fun a M => (q a M).mp, fun h => wp_mono h fun a M => (q a M).mpr⟩
theorem wp_of {o : Out α} {a : α} {M : Mem} (e : o = some (.ok a, M)) {Q : α → Mem → Prop} : wp o Q ↔ Q a M := by rw [e, wp_ok]
theorem wp_eq {o : Out α} {a : α} {M : Mem} (h : wp o fun x M' => x = a ∧ M' = M) : o = some (.ok a, M) := by
  obtain ⟨x, M', e, rfl, rfl⟩ := h
  exact e
theorem wp_if {c : Bool} {a b : Out α} {Q : α → Mem → Prop} : wp (if c then a else b) Q ↔ (c = true → wp a Q) ∧ (c = false → wp b Q) := by cases c <;> simp
end
def wo (o : Option P) (Q : P → Prop) : Prop := ∃ c, o = some c ∧ Q c
theorem wo_some {c : P} {Q : P → Prop} : wo (some c) Q ↔ Q c := ⟨fun ⟨_, e, q⟩ => Option.some.inj e ▸ q, fun q => ⟨c, rfl, q⟩⟩
theorem wo_none {Q : P → Prop} : wo none Q ↔ False := ⟨fun ⟨_, e, _⟩ => (by cases e), fun h => h.elim⟩
theorem wo_of {o : Option P} {c : P} (e : o = some c) {Q : P → Prop} : wo o Q ↔ Q c := by rw [e, wo_some]
section
variable {ρ : Rho} {M : Mem} {Q : D → Mem → Prop} {QA : List D → Mem → Prop} {QB : Bool → Mem → Prop} {QS : Fl → Mem → Prop}
theorem wp_var0 {d : D} {r : Rho} : wp (eVar 0 (some d :: r) M) Q ↔ Q d M := by
  show wp (some (Res.ok d, M)) Q ↔ _
  exact wp_ok
theorem wp_varS {x : Option D} {r : Rho} {i : Nat} : wp (eVar (i + 1) (x :: r) M) Q ↔ wp (eVar i r M) Q := Iff.rfl
theorem wp_var {i : Nat} {d : D} (h : getR ρ i = some d) : wp (eVar i ρ M) Q ↔ Q d M := wp_of (eVar_at h)
theorem wp_C {c : P} : wp (eC c ρ M) Q ↔ Q (.p c) M := wp_ok
theorem wp_Op {f : O2} {a b : ME} : wp (eOp f a b ρ M) Q ↔ wp (a ρ M) fun x M => wp (b ρ M) fun y M => wp (f x y M) Q := by
  rw [eOp_ap, wp_bind]; simp only [wp_bind]
theorem wp_Un {f : O1} {a : ME} : wp (eUn f a ρ M) Q ↔ wp (a ρ M) fun x M => wp (f x M) Q := by rw [eUn_ap, wp_bind]
theorem wp_aNil : wp (aNil ρ M) QA ↔ QA [] M := wp_ok
theorem wp_aCons {a : ME} {r : MA} : wp (aCons a r ρ M) QA ↔ wp (a ρ M) fun x M => wp (r ρ M) fun xs M => QA (x :: xs) M := by
  rw [aCons_ap, wp_bind]; simp only [wp_bind, wp_ok]
theorem wp_And {a b : ME} : wp (eAnd a b ρ M) Q ↔ wp (a ρ M) fun x M => ∃ c, truD x M = some c ∧ (c = true → wp (b ρ M) Q) ∧ (c = false → Q x M) := by
  rw [eAnd_ap, wp_bind]
  refine wp_post fun x M => ?_
  cases truD x M with
  | none => simp [wp_none]
  | some c => cases c <;> simp [wp_ok]
theorem wp_Or {a b : ME} : wp (eOr a b ρ M) Q ↔ wp (a ρ M) fun x M => ∃ c, truD x M = some c ∧ (c = true → Q x M) ∧ (c = false → wp (b ρ M) Q) := by
  rw [eOr_ap, wp_bind]
  refine wp_post fun x M => ?_
  cases truD x M with
  | none => simp [wp_none]
  | some c => cases c <;> simp [wp_ok]
theorem wp_If {t : MT} {a b : ME} : wp (eIf t a b ρ M) Q ↔ wp (t ρ M) fun c M => (c = true → wp (a ρ M) Q) ∧ (c = false → wp (b ρ M) Q) := by
  rw [eIf_ap, wp_bind]; simp only [wp_if]
theorem wp_Disp {mk : On} {a : MA} : wp (eDisp mk a ρ M) Q ↔ wp (a ρ M) fun ds M => wp (mk ds M) Q := by rw [eDisp_ap, wp_bind]
theorem wp_Call {f : On} {a : MA} : wp (eCall f a ρ M) Q ↔ wp (a ρ M) fun ds M => wp (f ds M) Q := by rw [eCall_ap, wp_bind]; simp only [wp_noX]
theorem wp_CallB {f : On} {a : MA} : wp (eCallB f a ρ M) Q ↔ wp (a ρ M) fun ds M => wp (f ds M) Q := by rw [eCallB_ap, wp_bind]
theorem wp_tCmp {f : O2} {a b : ME} : wp (tCmp f a b ρ M) QB ↔ wp (a ρ M) fun x M => wp (b ρ M) fun y M => wp (f x y M) fun z M => wp (bolD z M) QB := by
  rw [tCmp_ap, wp_bind, wp_Op]
theorem wp_bolD {c : Bool} : wp (bolD (.p (.bl c)) M) QB ↔ QB c M := by rw [bolD_bl, wp_ok]
theorem wp_Chain {f f' : O2} {a b c : ME} : wp (eChain f f' a b c ρ M) Q ↔ wp (a ρ M) fun x M => wp (b ρ M) fun y M => wp (f x y M) fun z M => wp (bolD z M) fun t M => (t = true → wp (c ρ M) fun u M => wp (f' y u M) Q) ∧ (t = false → Q (.p (.bl false)) M) := by
  rw [eChain_ap, wp_bind]
  refine wp_post fun x M => ?_
  rw [wp_bind]
  refine wp_post fun y M => ?_
  rw [wp_bind]
  refine wp_post fun z M => ?_
  cases z with
  | own n => simp [bolD, wp_none]
  | p v =>
    cases v with
    | bl t => cases t <;> simp [bolD, wp_ok, wp_bind]
    | _ => simp [bolD, wp_none]
theorem wp_tChn {f f' : O2} {a b c : ME} : wp (tChn f f' a b c ρ M) QB ↔ wp (eChain f f' a b c ρ M) fun z M => wp (bolD z M) QB := by rw [tChn_ap, wp_bind]
theorem wp_tru {m : ME} : wp (tru m ρ M) QB ↔ wp (m ρ M) fun d M => ∃ c, truD d M = some c ∧ QB c M := by
  rw [tru_ap, wp_bind]
  refine wp_post fun d M => ?_
  cases truD d M with
  | none => simp [wp_none]
  | some c => simp [wp_ok]
theorem wp_tNot {t : MT} : wp (tNotM t ρ M) QB ↔ wp (t ρ M) fun b M => QB (!b) M := by rw [tNotM_ap, wp_bind]; simp only [wp_ok]
theorem wp_tAnd {t u : MT} : wp (tAndM t u ρ M) QB ↔ wp (t ρ M) fun b M => (b = true → wp (u ρ M) QB) ∧ (b = false → QB false M) := by
  rw [tAndM_ap, wp_bind]; simp only [wp_if, wp_ok]
theorem wp_tOr {t u : MT} : wp (tOrM t u ρ M) QB ↔ wp (t ρ M) fun b M => (b = true → QB true M) ∧ (b = false → wp (u ρ M) QB) := by
  rw [tOrM_ap, wp_bind]; simp only [wp_if, wp_ok]
theorem wp_tYes : wp (tYesM ρ M) QB ↔ QB true M := wp_ok
theorem wp_Lc {mk : List D → Mem → Out D} {it : MA} {b : Bd} {t : MT} {e : ME} {vs : List Nat} : wp (eLc mk it b t e vs ρ M) Q ↔ wp (it ρ M) fun ds M => wp (lcGo b t e (wipeR ρ vs) ds M) fun ds M => wp (mk ds M) Q := by
  rw [eLc_ap, wp_bind]; simp only [wp_bind]
theorem wp_Lc2 {mk : List D → Mem → Out D} {it : MA} {b : Bd} {t : MT} {it1 : MA} {b1 : Bd} {t1 : MT} {e : ME} {vs vs1 : List Nat} : wp (eLc2 mk it b t it1 b1 t1 e vs vs1 ρ M) Q ↔ wp (it ρ M) fun ds M => wp (lc2Go b t it1 b1 t1 e vs1 (wipeR ρ vs) ds M) fun ds M => wp (mk ds M) Q := by
  rw [eLc2_ap, wp_bind]; simp only [wp_bind]
theorem wp_Meth {c : Str} {f : On} {o : ME} {a : MA} : wp (eMeth c f o a ρ M) Q ↔ wp (o ρ M) fun x M => insD c x M = true ∧ wp (a ρ M) fun ds M => wp (f (x :: ds) M) Q := by
  rw [eMeth_ap, wp_bind]
  refine wp_post fun x M => ?_
  cases insD c x M <;> simp [wp_none, wp_bind, wp_noX]
theorem wp_Prop {c : Str} {f : On} {o : ME} : wp (eProp c f o ρ M) Q ↔ wp (o ρ M) fun x M => insD c x M = true ∧ wp (f [x] M) Q := by
  rw [eProp_ap, wp_bind]
  refine wp_post fun x M => ?_
  cases insD c x M <;> simp [wp_none, wp_noX]
theorem wp_Bm {is : D → Mem → Bool} {f : Om} {o : ME} {a : MA} : wp (eBm is f o a ρ M) Q ↔ wp (o ρ M) fun x M => is x M = true ∧ wp (a ρ M) fun ds M => wp (f x ds M) Q := by
  rw [eBm_ap, wp_bind]
  refine wp_post fun x M => ?_
  cases is x M <;> simp [wp_none, wp_bind]
theorem wp_Slice {m : ME} {lo hi : MO_} : wp (eSlice m lo hi ρ M) Q ↔ wp (m ρ M) fun x M => wp (lo ρ M) fun l M => wp (hi ρ M) fun h M => wp (sliceD x l h M) Q := by
  rw [eSlice_ap, wp_bind]; simp only [wp_bind]
theorem wp_oNone {Qo : Option Int → Mem → Prop} : wp (oNone ρ M) Qo ↔ Qo none M := wp_ok
def intK (Qo : Option Int → Mem → Prop) : D → Mem → Prop := fun d M => match d with
  | .p (.int i) => Qo (some i) M
  | _ => False
theorem intK_i {Qo : Option Int → Mem → Prop} {i : Int} : intK Qo (.p (.int i)) M ↔ Qo (some i) M := Iff.rfl
theorem wp_oSome {m : ME} {Qo : Option Int → Mem → Prop} : wp (oSome m ρ M) Qo ↔ wp (m ρ M) (intK Qo) := by
  rw [oSome_ap, wp_bind]
  refine wp_post fun d M => ?_
  cases d with
  | own n => simp [intK, wp_none]
  | p v => cases v <;> simp [intK, wp_none, wp_ok]
def seqQ (QA : List D → Mem → Prop) : D → Mem → Prop := fun d M => match d with
  | .p (.lst xs) => QA (xs.map .p) M
  | .p (.tup xs) => QA (xs.map .p) M
  | _ => False
theorem seqQ_l {xs : List P} : seqQ QA (.p (.lst xs)) M ↔ QA (xs.map .p) M := Iff.rfl
theorem seqQ_t {xs : List P} : seqQ QA (.p (.tup xs)) M ↔ QA (xs.map .p) M := Iff.rfl
theorem wp_aSeq {m : ME} : wp (aSeq m ρ M) QA ↔ wp (m ρ M) (seqQ QA) := by
  rw [aSeq_ap, wp_bind]
  refine wp_post fun d M => ?_
  cases d with
  | own n => simp [seqQ, wp_none]
  | p v => cases v <;> simp [seqQ, wp_none, wp_ok]
def rngK (QA : List D → Mem → Prop) : List D → Mem → Prop := fun ds M => match ds with
  | [.p (.int j)] => (-(2 ^ 62) ≤ j ∧ j < 2 ^ 62) ∧ QA (rngD 0 j) M
  | [.p (.int i), .p (.int j)] => (-(2 ^ 62) ≤ i ∧ i < 2 ^ 62 ∧ -(2 ^ 62) ≤ j ∧ j < 2 ^ 62) ∧ QA (rngD i j) M
  | _ => False
theorem rngK1 {n : Nat} (h : n ≤ 1000000) : rngK QA [.p (.int (n : Nat))] M ↔ QA ((List.range n).map fun i => .p (.int ((i : Nat) : Int))) M := by
  unfold rngK
  have e : rngD 0 (n : Int) = (List.range n).map fun i => .p (.int ((i : Nat) : Int)) := by
    unfold rngD
    have : ((n : Int) - 0).toNat = n := by omega
    rw [this]
    simp
  simp only
  rw [e]
  exact ⟨fun h => h.2, fun q => ⟨by omega, q⟩⟩
theorem wp_aRng1 {a : MA} (h : wp (a ρ M) fun ds M => ds.length = 1 ∧ rngK QA ds M) : wp (aRng1 a ρ M) QA := by
  rw [aRng1_ap, wp_bind]
  refine wp_mono h fun ds M ⟨hl, q⟩ => ?_
  match ds, hl with
  | [d], _ =>
    unfold rngK at q
    split at q
    · rename_i j e
      cases e
      simp only
      rw [if_pos q.1, wp_ok]
      exact q.2
    · rename_i e; cases e
    · exact q.elim
theorem wp_aRng2 {a : MA} (h : wp (a ρ M) fun ds M => ds.length = 2 ∧ rngK QA ds M) : wp (aRng2 a ρ M) QA := by
  rw [aRng2_ap, wp_bind]
  refine wp_mono h fun ds M ⟨hl, q⟩ => ?_
  match ds, hl with
  | [d, e], _ =>
    unfold rngK at q
    split at q
    · rename_i j e; cases e
    · rename_i i j e
      cases e
      simp only
      rw [if_pos q.1, wp_ok]
      exact q.2
    · exact q.elim
def enmK (QA : List D → Mem → Prop) : List D → Mem → Prop := fun ds M => match ds with
  | [.p (.lst xs)] => QA (enumP xs) M
  | [.p (.tup xs)] => QA (enumP xs) M
  | _ => False
theorem enmK_t {xs : List P} : enmK QA [.p (.tup xs)] M ↔ QA (enumP xs) M := Iff.rfl
theorem enmK_l {xs : List P} : enmK QA [.p (.lst xs)] M ↔ QA (enumP xs) M := Iff.rfl
theorem wp_aEnum {a : MA} : wp (aEnum a ρ M) QA ↔ wp (a ρ M) (enmK QA) := by
  rw [aEnum_ap, wp_bind]
  refine wp_post fun ds M => ?_
  unfold enmK
  split <;> simp [wp_ok, wp_none]
def zipK (QA : List D → Mem → Prop) : List D → Mem → Prop := fun ds M => match ds with
  | [.p (.lst xs), .p (.lst ys)] => QA (zipP xs ys) M
  | [.p (.tup xs), .p (.tup ys)] => QA (zipP xs ys) M
  | _ => False
theorem zipK_t {xs ys : List P} : zipK QA [.p (.tup xs), .p (.tup ys)] M ↔ QA (zipP xs ys) M := Iff.rfl
theorem zipK_l {xs ys : List P} : zipK QA [.p (.lst xs), .p (.lst ys)] M ↔ QA (zipP xs ys) M := Iff.rfl
theorem wp_aZip {a : MA} : wp (aZip a ρ M) QA ↔ wp (a ρ M) (zipK QA) := by
  rw [aZip_ap, wp_bind]
  refine wp_post fun ds M => ?_
  unfold zipK
  split <;> simp [wp_ok, wp_none]
theorem wp_aStar {m : ME} {r : MA} : wp (aStar m r ρ M) QA ↔ wp (m ρ M) fun d M => ∃ ds, itemsD d M = some ds ∧ wp (r ρ M) fun es M => QA (ds ++ es) M := by
  rw [aStar_ap, wp_bind]
  refine wp_post fun d M => ?_
  cases itemsD d M <;> simp [wp_none, wp_bind, wp_ok]
/-! ### statements -/
def seqK (b : MS) (QS : Fl → Mem → Prop) : Fl → Mem → Prop := fun fl M => match fl with
  | .nx ρ' => wp (b ρ' M) QS
  | .ret d => QS (.ret d) M
  | .brk ρ' => QS (.brk ρ') M
  | .ct ρ' => QS (.ct ρ') M
theorem seqK_nx {b : MS} {ρ' : Rho} : seqK b QS (.nx ρ') M ↔ wp (b ρ' M) QS := Iff.rfl
theorem seqK_ret {b : MS} {d : D} : seqK b QS (.ret d) M ↔ QS (.ret d) M := Iff.rfl
theorem seqK_brk {b : MS} {ρ' : Rho} : seqK b QS (.brk ρ') M ↔ QS (.brk ρ') M := Iff.rfl
theorem seqK_ct {b : MS} {ρ' : Rho} : seqK b QS (.ct ρ') M ↔ QS (.ct ρ') M := Iff.rfl
theorem wp_Seq {a b : MS} : wp (sSeq a b ρ M) QS ↔ wp (a ρ M) (seqK b QS) := by
  rw [sSeq_ap, wp_bind]
  refine wp_post fun fl M => ?_
  cases fl <;> simp [seqK, wp_ok]
theorem wp_Nop : wp (sNop ρ M) QS ↔ QS (.nx ρ) M := wp_ok
theorem wp_Break : wp (sBreak ρ M) QS ↔ QS (.brk ρ) M := wp_ok
theorem wp_Cont : wp (sCont ρ M) QS ↔ QS (.ct ρ) M := wp_ok
theorem wp_Ret {m : ME} : wp (sRet m ρ M) QS ↔ wp (m ρ M) fun d M => QS (.ret d) M := by rw [sRet_ap, wp_bind]; simp only [wp_ok]
theorem wp_RetN : wp (sRetN ρ M) QS ↔ QS (.ret (.p .non)) M := wp_ok
theorem wp_Never : wp (sNever ρ M) QS ↔ False := wp_none
theorem wp_Expr {m : ME} : wp (sExpr m ρ M) QS ↔ wp (m ρ M) fun _ M => QS (.nx ρ) M := by rw [sExpr_ap, wp_bind]; simp only [wp_ok]
theorem wp_sIf {t : MT} {a b : MS} : wp (sIf t a b ρ M) QS ↔ wp (t ρ M) fun c M => (c = true → wp (a ρ M) QS) ∧ (c = false → wp (b ρ M) QS) := by
  rw [sIf_ap, wp_bind]; simp only [wp_if]
theorem wp_AsgN {i : Nat} {m : ME} : wp (sAsg (.n i) m ρ M) QS ↔ wp (m ρ M) fun d M => QS (.nx (ρ.set i (some d))) M := by
  rw [sAsgN_ap, wp_bind]; simp only [wp_ok]
theorem wp_AsgT {is : List Nat} {m : ME} : wp (sAsg (.t is) m ρ M) QS ↔ wp (m ρ M) fun d M => ∃ ρ', bindB (.t is) d ρ = some ρ' ∧ QS (.nx ρ') M := by
  rw [sAsgT_ap, wp_bind]
  refine wp_post fun d M => ?_
  cases bindB (.t is) d ρ <;> simp [wp_none, wp_ok]
def parK (i j : Nat) (ρ : Rho) (QS : Fl → Mem → Prop) : List D → Mem → Prop := fun ds M => match ds with
  | [x, y] => QS (.nx ((ρ.set i (some x)).set j (some y))) M
  | _ => False
theorem parK_2 {i j : Nat} {x y : D} : parK i j ρ QS [x, y] M ↔ QS (.nx ((ρ.set i (some x)).set j (some y))) M := Iff.rfl
theorem wp_Par {i j : Nat} {a : MA} : wp (sPar i j a ρ M) QS ↔ wp (a ρ M) (parK i j ρ QS) := by
  rw [sPar_ap, wp_bind]
  refine wp_post fun ds M => ?_
  unfold parK
  split <;> simp [wp_ok, wp_none]
theorem wp_For {it : MA} {b : Bd} {body : MS} : wp (sFor it b body ρ M) QS ↔ wp (it ρ M) fun ds M => wp (forGo b body ds ρ M) QS := by rw [sFor_ap, wp_bind]
/-- o[i] = v for a list of one's own -/
def subK (ρ : Rho) (QS : Fl → Mem → Prop) (v o i : D) (M : Mem) : Prop := wp (match o, i with
  | .own n, .p (.int k) => match M[n]? with
    | some (.lst xs) => match ixN xs.length k with
      | some j => some (.ok (.nx ρ), M.set n (.lst (xs.set j v)))
      | none => none
    | _ => none
  | _, _ => none) QS
theorem subK_at {n j : Nat} {k : Int} {xs : List D} {v : D} (h : M[n]? = some (.lst xs)) (hj : ixN xs.length k = some j) : subK ρ QS v (.own n) (.p (.int k)) M ↔ QS (.nx ρ) (M.set n (.lst (xs.set j v))) := by
  unfold subK
  simp only [h, hj, wp_ok]
theorem wp_Sub {mo mi mv : ME} : wp (sSub mo mi mv ρ M) QS ↔ wp (mv ρ M) fun v M => wp (mo ρ M) fun o M => wp (mi ρ M) fun i M => subK ρ QS v o i M := by
  rw [sSub_ap, wp_bind]
  refine wp_post fun v M => ?_
  rw [wp_bind]
  refine wp_post fun o M => ?_
  rw [wp_bind]
  exact wp_post fun i M => Iff.rfl
/-! ### defs -/
def finK (Q : D → Mem → Prop) : Fl → Mem → Prop := fun fl M => match fl with
  | .ret d => Q d M
  | .nx _ => Q (.p .non) M
  | _ => False
theorem finK_ret {d : D} : finK Q (.ret d) M ↔ Q d M := Iff.rfl
theorem finK_nx {ρ' : Rho} : finK Q (.nx ρ') M ↔ Q (.p .non) M := Iff.rfl
theorem wp_fin {o : Out Fl} : wp (finR o) Q ↔ wp o (finK Q) := by
  unfold finR
  rw [wp_bind]
  refine wp_post fun fl M => ?_
  cases fl <;> simp [finK, wp_ok, wp_none]
theorem wp_fn1 {n : Nat} {m : MS} {a : D} : wp (fnM 1 n m [a] M) Q ↔ wp (m (some a :: List.replicate (n - 1) none) M) (finK Q) := by rw [fnM1, wp_fin]
theorem wp_fn2 {n : Nat} {m : MS} {a b : D} : wp (fnM 2 n m [a, b] M) Q ↔ wp (m (some a :: some b :: List.replicate (n - 2) none) M) (finK Q) := by rw [fnM2, wp_fin]
theorem wp_fn3 {n : Nat} {m : MS} {a b c : D} : wp (fnM 3 n m [a, b, c] M) Q ↔ wp (m (some a :: some b :: some c :: List.replicate (n - 3) none) M) (finK Q) := by rw [fnM3, wp_fin]
theorem wp_fn4 {n : Nat} {m : MS} {a b c d : D} : wp (fnM 4 n m [a, b, c, d] M) Q ↔ wp (m (some a :: some b :: some c :: some d :: List.replicate (n - 4) none) M) (finK Q) := by rw [fnM4, wp_fin]
/-! ### operations -/
theorem wp_lift2 {f : P → P → Option P} {a b : P} : wp (lift2 f (.p a) (.p b) M) Q ↔ wo (f a b) fun c => Q (.p c) M := by rw [lift2_ap]; cases f a b <;> simp [wp_ok, wp_none, wo_some, wo_none]
theorem wp_lift1 {f : P → Option P} {a : P} : wp (lift1 f (.p a) M) Q ↔ wo (f a) fun c => Q (.p c) M := by rw [lift1_ap]; cases f a <;> simp [wp_ok, wp_none, wo_some, wo_none]
theorem wp_look2 {f : P → P → Option P} {a b : P} : wp (look2 f (.p a) (.p b) M) Q ↔ wo (f a b) fun c => Q (.p c) M := by rw [look2_pp]; cases f a b <;> simp [wp_ok, wp_none, wo_some, wo_none]
theorem wp_liftn1 {f : List P → Option P} {a : P} : wp (liftn f [.p a] M) Q ↔ wo (f [a]) fun c => Q (.p c) M := by rw [liftn1]; cases f [a] <;> simp [wp_ok, wp_none, wo_some, wo_none]
theorem wp_liftn2 {f : List P → Option P} {a b : P} : wp (liftn f [.p a, .p b] M) Q ↔ wo (f [a, b]) fun c => Q (.p c) M := by rw [liftn2]; cases f [a, b] <;> simp [wp_ok, wp_none, wo_some, wo_none]
theorem wp_liftn3 {f : List P → Option P} {a b c : P} : wp (liftn f [.p a, .p b, .p c] M) Q ↔ wo (f [a, b, c]) fun c => Q (.p c) M := by rw [liftn3]; cases f [a, b, c] <;> simp [wp_ok, wp_none, wo_some, wo_none]
theorem wp_notD {b : Bool} : wp (notD (.p (.bl b)) M) Q ↔ Q (.p (.bl !b)) M := by rw [notD_bl, wp_ok]
theorem wp_len_t {xs : List P} : wp (lenO [.p (.tup xs)] M) Q ↔ Q (.p (.int xs.length)) M := by rw [lenO_tup, wp_ok]
theorem wp_len_l {xs : List P} : wp (lenO [.p (.lst xs)] M) Q ↔ Q (.p (.int xs.length)) M := by rw [lenO_lst, wp_ok]
theorem wp_tuple_l {xs : List P} : wp (tupleF [.p (.lst xs)] M) Q ↔ Q (.p (.tup xs)) M := by rw [tupleF_l, wp_ok]
theorem wp_tuple_t {xs : List P} : wp (tupleF [.p (.tup xs)] M) Q ↔ Q (.p (.tup xs)) M := by rw [tupleF_t, wp_ok]
theorem wp_list_l {xs : List P} : wp (listF [.p (.lst xs)] M) Q ↔ Q (.p (.lst xs)) M := by
  rw [wp_of (show listF [.p (.lst xs)] M = some (.ok (.p (.lst xs)), M) by simp [listF, itemsD, allP_map])]
theorem wp_list_t {xs : List P} : wp (listF [.p (.tup xs)] M) Q ↔ Q (.p (.lst xs)) M := by
  rw [wp_of (show listF [.p (.tup xs)] M = some (.ok (.p (.lst xs)), M) by simp [listF, itemsD, allP_map])]
theorem wp_isN {a : P} : wp (isND (.p a) (.p .non) M) Q ↔ Q (.p (.bl (isNone (.p a)))) M := wp_ok
theorem wp_notN {a : P} : wp (notND (.p a) (.p .non) M) Q ↔ Q (.p (.bl (!isNone (.p a)))) M := wp_ok
theorem wp_slot {tab : Str → Option Nat} {c : Str} {fs : List P} {i : Nat} {q : P} (h1 : tab c = some i) (h2 : fs[i]? = some q) : wp (slotD tab (.p (.obj c fs)) M) Q ↔ Q (.p q) M := by
  rw [wp_of (show slotD tab (.p (.obj c fs)) M = some (.ok (.p q), M) by unfold slotD; simp only [h1, h2])]
theorem wp_mkL {ps : List P} (h : ps.length ≤ sizeLine) : wp (mkL (ps.map .p) M) Q ↔ Q (.p (.lst ps)) M := wp_of (mkL_p h)
theorem wp_mkT {ps : List P} (h : ps.length ≤ sizeLine) : wp (mkT (ps.map .p) M) Q ↔ Q (.p (.tup ps)) M := wp_of (mkT_p h)
theorem wp_mkO {ds : List D} (h : ds.length ≤ sizeLine) : wp (mkO ds M) Q ↔ Q (.own M.length) (M ++ [.lst ds]) := by
  unfold mkO
  rw [if_pos h, wp_ok]
theorem wp_T1 {a : P} : wp (mkT [.p a] M) Q ↔ Q (.p (.tup [a])) M := wp_mkT (ps := [a]) (by rw [sizeLine_eq]; simp)
theorem wp_T2 {a b : P} : wp (mkT [.p a, .p b] M) Q ↔ Q (.p (.tup [a, b])) M := wp_mkT (ps := [a, b]) (by rw [sizeLine_eq]; simp)
theorem wp_T3 {a b c : P} : wp (mkT [.p a, .p b, .p c] M) Q ↔ Q (.p (.tup [a, b, c])) M := wp_mkT (ps := [a, b, c]) (by rw [sizeLine_eq]; simp)
theorem wp_L0 : wp (mkL [] M) Q ↔ Q (.p (.lst [])) M := wp_mkL (ps := []) (by rw [sizeLine_eq]; simp)
theorem wp_T0 : wp (mkT [] M) Q ↔ Q (.p (.tup [])) M := wp_mkT (ps := []) (by rw [sizeLine_eq]; simp)
theorem wp_L1 {a : P} : wp (mkL [.p a] M) Q ↔ Q (.p (.lst [a])) M := wp_mkL (ps := [a]) (by rw [sizeLine_eq]; simp)
theorem wp_L2 {a b : P} : wp (mkL [.p a, .p b] M) Q ↔ Q (.p (.lst [a, b])) M := wp_mkL (ps := [a, b]) (by rw [sizeLine_eq]; simp)
theorem wp_T4 {a b c d : P} : wp (mkT [.p a, .p b, .p c, .p d] M) Q ↔ Q (.p (.tup [a, b, c, d])) M := wp_mkT (ps := [a, b, c, d]) (by rw [sizeLine_eq]; simp)
theorem wp_L3 {a b c : P} : wp (mkL [.p a, .p b, .p c] M) Q ↔ Q (.p (.lst [a, b, c])) M := wp_mkL (ps := [a, b, c]) (by rw [sizeLine_eq]; simp)
theorem wp_L4 {a b c d : P} : wp (mkL [.p a, .p b, .p c, .p d] M) Q ↔ Q (.p (.lst [a, b, c, d])) M := wp_mkL (ps := [a, b, c, d]) (by rw [sizeLine_eq]; simp)
theorem wp_T5 {a b c d e : P} : wp (mkT [.p a, .p b, .p c, .p d, .p e] M) Q ↔ Q (.p (.tup [a, b, c, d, e])) M := wp_mkT (ps := [a, b, c, d, e]) (by rw [sizeLine_eq]; simp)
theorem wp_L5 {a b c d e : P} : wp (mkL [.p a, .p b, .p c, .p d, .p e] M) Q ↔ Q (.p (.lst [a, b, c, d, e])) M := wp_mkL (ps := [a, b, c, d, e]) (by rw [sizeLine_eq]; simp)
theorem wp_newP : wp (eNewP ρ M) Q ↔ Q (.p (.dic [] [])) M := wp_ok
end
/-! ### plain operations -/
section
variable {Q : P → Prop} {i j : Int} {x y : Str} {xs ys : List P}
theorem wo_one {f : P → Option P} {a : P} : wo (one f [a]) Q ↔ wo (f a) Q := Iff.rfl
theorem wo_two {f : P → P → Option P} {a b : P} : wo (two f [a, b]) Q ↔ wo (f a b) Q := Iff.rfl
theorem wo_lt : wo (ltI (.int i) (.int j)) Q ↔ Q (.bl (decide (i < j))) := wo_some
theorem wo_le : wo (leI (.int i) (.int j)) Q ↔ Q (.bl (decide (i ≤ j))) := wo_some
theorem wo_gt : wo (gtI (.int i) (.int j)) Q ↔ Q (.bl (decide (j < i))) := wo_some
theorem wo_ge : wo (geI (.int i) (.int j)) Q ↔ Q (.bl (decide (j ≤ i))) := wo_some
theorem wo_sub : wo (subI (.int i) (.int j)) Q ↔ Q (.int (i - j)) := wo_some
theorem wo_neg : wo (negP (.int i)) Q ↔ Q (.int (-i)) := wo_some
theorem wo_addI : wo (addP (.int i) (.int j)) Q ↔ Q (.int (i + j)) := wo_some
theorem wo_addS (h : x.length + y.length ≤ sizeLine) : wo (addP (.str x) (.str y)) Q ↔ Q (.str (x ++ y)) := wo_of (by unfold addP; simp only; rw [if_pos h])
theorem wo_addT (h : xs.length + ys.length ≤ sizeLine) : wo (addP (.tup xs) (.tup ys)) Q ↔ Q (.tup (xs ++ ys)) := wo_of (by unfold addP; simp only; rw [if_pos h])
theorem wo_addL (h : xs.length + ys.length ≤ sizeLine) : wo (addP (.lst xs) (.lst ys)) Q ↔ Q (.lst (xs ++ ys)) := wo_of (by unfold addP; simp only; rw [if_pos h])
theorem wo_mod (h : 0 < j) : wo (modI (.int i) (.int j)) Q ↔ Q (.int (i % j)) := wo_of (by show (if 0 < j then _ else _) = _; rw [if_pos h])
theorem wo_div (h : 0 < j) (h2 : j.natAbs.log2 < 9000) : wo (divI (.int i) (.int j)) Q ↔ Q (.int (i / j)) := wo_of (by show (if 0 < j ∧ _ then _ else _) = _; rw [if_pos ⟨h, h2⟩])
theorem wo_pow {n : Nat} (h : n ≤ 1000000) (h2 : i.natAbs < 2 ^ 64) : wo (powI (.int i) (.int (n : Nat))) Q ↔ Q (.int (i ^ n)) := wo_of (by show (if _ then _ else _) = _; rw [if_pos ⟨by omega, by omega, h2⟩]; simp)
theorem wo_mul (h : i.natAbs.log2 + j.natAbs.log2 < 1000000) : wo (mulP (.int i) (.int j)) Q ↔ Q (.int (i * j)) := wo_of (by unfold mulP; simp only; rw [if_pos h])
theorem wo_abs : wo (absF (.int i)) Q ↔ Q (.int (if i < 0 then -i else i)) := wo_some
theorem wo_int : wo (intF (.int i)) Q ↔ Q (.int i) := wo_some
theorem wo_intB {b : Bool} : wo (intF (.bl b)) Q ↔ Q (.int (if b then 1 else 0)) := wo_some
theorem wo_max2 : wo (maxF [.int i, .int j]) Q ↔ Q (.int (if j > i then j else i)) := wo_some
theorem wo_min2 : wo (minF [.int i, .int j]) Q ↔ Q (.int (if j < i then j else i)) := wo_some
theorem wo_all {bs : List Bool} : wo (allF (.lst (bs.map .bl))) Q ↔ Q (.bl (bs.all id)) := wo_of allF_l
theorem wo_any {bs : List Bool} : wo (anyF (.lst (bs.map .bl))) Q ↔ Q (.bl (bs.any id)) := wo_of anyF_l
theorem wo_sum {ns : List Int} : wo (sumF (.lst (ns.map .int))) Q ↔ Q (.int ns.sum) := wo_of (by unfold sumF; simp)
theorem wo_eqI : wo (eqP (.int i) (.int j)) Q ↔ Q (.bl (decide (i = j))) := wo_of eqP_ii
theorem wo_neI : wo (neP (.int i) (.int j)) Q ↔ Q (.bl (!decide (i = j))) := wo_of neP_ii
end
theorem truD_b {b : Bool} {M : Mem} : truD (.p (.bl b)) M = some b := rfl
theorem truD_e {b : Bool} {M : Mem} {X : Bool → Prop} : (∃ c, truD (.p (.bl b)) M = some c ∧ X c) ↔ X b := ⟨fun ⟨_, e, x⟩ => by cases e; exact x, fun x => ⟨b, rfl, x⟩⟩
/-! ### loops, comprehensions -/
section
variable {α : Type} {b : Bd} {body : MS} {i : α → D} {QS : Fl → Mem → Prop}
def bodyK (I : Rho → Mem → Prop) (QS : Fl → Mem → Prop) : Fl → Mem → Prop := fun fl M => match fl with
  | .nx ρ => I ρ M
  | .ct ρ => I ρ M
  | .ret d => QS (.ret d) M
  | .brk ρ => QS (.nx ρ) M
theorem bodyK_nx {I : Rho → Mem → Prop} {ρ : Rho} {M : Mem} : bodyK I QS (.nx ρ) M ↔ I ρ M := Iff.rfl
theorem bodyK_ct {I : Rho → Mem → Prop} {ρ : Rho} {M : Mem} : bodyK I QS (.ct ρ) M ↔ I ρ M := Iff.rfl
theorem bodyK_ret {I : Rho → Mem → Prop} {d : D} {M : Mem} : bodyK I QS (.ret d) M ↔ QS (.ret d) M := Iff.rfl
theorem bodyK_brk {I : Rho → Mem → Prop} {ρ : Rho} {M : Mem} : bodyK I QS (.brk ρ) M ↔ QS (.nx ρ) M := Iff.rfl
theorem wp_for (xs : List α) (I : List α → Rho → Mem → Prop) {ρ : Rho} {M : Mem} (h0 : I [] ρ M)
    (step : ∀ pre x post, xs = pre ++ x :: post → ∀ ρ M, I pre ρ M → ∃ ρ1, bindB b (i x) ρ = some ρ1 ∧ wp (body ρ1 M) (bodyK (I (pre ++ [x])) QS))
    (hQ : ∀ ρ M, I xs ρ M → QS (.nx ρ) M) : wp (forGo b body (xs.map i) ρ M) QS := by
  have key : ∀ (post pre : List α), xs = pre ++ post → ∀ ρ M, I pre ρ M → wp (forGo b body (post.map i) ρ M) QS := by
    intro post
    induction post with
    | nil =>
      intro pre e ρ M h
      rw [List.append_nil] at e
      subst e
      show wp (some (.ok (.nx ρ), M)) QS
      exact wp_ok.mpr (hQ ρ M h)
    | cons x post ih =>
      intro pre e ρ M h
      obtain ⟨ρ1, h1, h2⟩ := step pre x post e ρ M h
      show wp (forGo b body (i x :: post.map i) ρ M) QS
      unfold forGo
      rw [h1]
      simp only [wp_bind]
      refine wp_mono h2 fun fl M q => ?_
      cases fl with
      | nx ρ' => exact ih (pre ++ [x]) (by rw [e]; simp) ρ' M q
      | ct ρ' => exact ih (pre ++ [x]) (by rw [e]; simp) ρ' M q
      | ret d => exact wp_ok.mpr q
      | brk ρ' => exact wp_ok.mpr q
  exact key xs [] rfl ρ M h0
theorem wp_lc {t : MT} {e : ME} {ρ : Rho} {QA : List D → Mem → Prop} (xs : List α) (I : List α → List P → Mem → Prop) {M : Mem} (h0 : I [] [] M)
    (step : ∀ pre x post, xs = pre ++ x :: post → ∀ out M, I pre out M → ∃ ρ1, bindB b (i x) ρ = some ρ1 ∧ wp (t ρ1 M) fun c M => (c = true → wp (e ρ1 M) fun d M => ∃ p, d = .p p ∧ I (pre ++ [x]) (out ++ [p]) M) ∧ (c = false → I (pre ++ [x]) out M))
    (hQ : ∀ out M, I xs out M → QA (out.map .p) M) : wp (lcGo b t e ρ (xs.map i) M) QA := by
  have key : ∀ (post pre : List α), xs = pre ++ post → ∀ out M, I pre out M → wp (lcGo b t e ρ (post.map i) M) fun ds M => ∃ ps, ds = ps.map .p ∧ I xs (out ++ ps) M := by
    intro post
    induction post with
    | nil =>
      intro pre e out M h
      rw [List.append_nil] at e
      subst e
      show wp (some (.ok [], M)) _
      exact wp_ok.mpr ⟨[], rfl, by rw [List.append_nil]; exact h⟩
    | cons x post ih =>
      intro pre e out M h
      obtain ⟨ρ1, h1, h2⟩ := step pre x post e out M h
      show wp (lcGo b t _ ρ (i x :: post.map i) M) _
      unfold lcGo
      rw [h1]
      simp only [wp_bind, wp_noX]
      refine wp_mono h2 fun c M q => ?_
      cases c with
      | true =>
        simp only [if_true, wp_bind, wp_noX, wp_ok]
        refine wp_mono (q.1 rfl) fun d M ⟨p, e1, q⟩ => ?_
        refine wp_mono (ih (pre ++ [x]) (by rw [e]; simp) _ M q) fun ds M ⟨ps, e2, q⟩ => ⟨p :: ps, by rw [e1, e2]; rfl, by simpa using q⟩
      | false =>
        simp only [Bool.false_eq_true, if_false]
        exact ih (pre ++ [x]) (by rw [e]; simp) out M (q.2 rfl)
  refine wp_mono (key xs [] rfl [] M h0) fun ds M ⟨ps, e, q⟩ => ?_
  subst e
  exact hQ _ M (by simpa using q)
/-- nothing changes: filter and map -/
theorem wp_lcp {t : MT} {e : ME} {ρ : Rho} {QA : List D → Mem → Prop} (xs : List α) (c : α → Bool) (f : α → P) {M : Mem}
    (step : ∀ x ∈ xs, ∃ ρ1, bindB b (i x) ρ = some ρ1 ∧ wp (t ρ1 M) fun c' M' => M' = M ∧ c' = c x ∧ (c x = true → wp (e ρ1 M) fun d M' => M' = M ∧ d = .p (f x)))
    (hQ : QA (((xs.filter c).map f).map .p) M) : wp (lcGo b t e ρ (xs.map i) M) QA := by
  refine wp_lc xs (fun pre out M' => M' = M ∧ out = (pre.filter c).map f) ⟨rfl, rfl⟩ (fun pre x post e1 out M' ⟨hM, ho⟩ => ?_) fun out M' ⟨hM, ho⟩ => by rw [hM, ho]; exact hQ
  subst hM ho
  obtain ⟨ρ1, h1, h2⟩ := step x (by rw [e1]; simp)
  refine ⟨ρ1, h1, wp_mono h2 fun c' M'' ⟨hM, hc, hq⟩ => ⟨fun h => ?_, fun h => ?_⟩⟩
  · subst hM
    have hx : c x = true := hc.symm.trans h
    exact wp_mono (hq hx) fun d M ⟨a1, a2⟩ => ⟨f x, a2, a1, by simp [hx]⟩
  · have hx : c x = false := hc.symm.trans h
    exact ⟨hM, by simp [hx]⟩
theorem wp_lcm {e : ME} {ρ : Rho} {QA : List D → Mem → Prop} (xs : List α) (f : α → P) {M : Mem}
    (step : ∀ x ∈ xs, ∃ ρ1, bindB b (i x) ρ = some ρ1 ∧ wp (e ρ1 M) fun d M' => M' = M ∧ d = .p (f x))
    (hQ : QA ((xs.map f).map .p) M) : wp (lcGo b tYesM e ρ (xs.map i) M) QA := by
  refine wp_lcp xs (fun _ => true) f (fun x hx => ?_) (by rw [List.filter_eq_self.mpr (by simp)]; exact hQ)
  obtain ⟨ρ1, h1, h2⟩ := step x hx
  exact ⟨ρ1, h1, wp_tYes.mpr ⟨rfl, rfl, fun _ => h2⟩⟩
end
end DL
namespace DL
theorem wp_val {α : Type} {o : Out α} {M : Mem} {Q : α → Mem → Prop} (v : α) (h : wp o fun d M' => d = v ∧ M' = M) (q : Q v M) : wp o Q := (wp_of (wp_eq h)).mpr q
theorem asg_val {ρ : Rho} {M : Mem} {i : Nat} {m : ME} {Q : Fl → Mem → Prop} (v : D) (h : wp (m ρ M) fun d M' => d = v ∧ M' = M) (q : Q (.nx (ρ.set i (some v))) M) : wp (sAsg (.n i) m ρ M) Q := wp_AsgN.mpr (wp_val v h q)
end DL

set_option maxHeartbeats 4000000
namespace DL
open PySem PySem.Spec PyProof.Rows L2
/-! ### the same with what is asked said beside -/
section
variable {Q : P → Prop} {i j : Int} {x y : Str} {xs ys : List P}
theorem wo_ite {c : Prop} [Decidable c] {p : P} : wo (if c then some p else none) Q ↔ c ∧ Q p := by
  by_cases h : c
  · rw [if_pos h, wo_some]; exact ⟨fun q => ⟨h, q⟩, fun q => q.2⟩
  · rw [if_neg h, wo_none]; exact ⟨fun q => q.elim, fun q => h q.1⟩
theorem wo_modA : wo (modI (.int i) (.int j)) Q ↔ 0 < j ∧ Q (.int (i % j)) := wo_ite
theorem wo_divA : wo (divI (.int i) (.int j)) Q ↔ (0 < j ∧ j.natAbs.log2 < 9000) ∧ Q (.int (i / j)) := wo_ite
theorem wo_mulA : wo (mulP (.int i) (.int j)) Q ↔ i.natAbs.log2 + j.natAbs.log2 < 1000000 ∧ Q (.int (i * j)) := by unfold mulP; exact wo_ite
theorem wo_addSA : wo (addP (.str x) (.str y)) Q ↔ x.length + y.length ≤ sizeLine ∧ Q (.str (x ++ y)) := by unfold addP; exact wo_ite
theorem wo_addTA : wo (addP (.tup xs) (.tup ys)) Q ↔ xs.length + ys.length ≤ sizeLine ∧ Q (.tup (xs ++ ys)) := by unfold addP; exact wo_ite
theorem wo_addLA : wo (addP (.lst xs) (.lst ys)) Q ↔ xs.length + ys.length ≤ sizeLine ∧ Q (.lst (xs ++ ys)) := by unfold addP; exact wo_ite
theorem wo_strI : wo (strF (.int i)) Q ↔ i.natAbs.log2 < 1920 ∧ Q (.str (toString i)) := by unfold strF; exact wo_ite
theorem wo_strS : wo (strF (.str x)) Q ↔ Q (.str x) := wo_some
theorem wo_fmtI : wo (fmtP (.int i)) Q ↔ i.natAbs.log2 < 1920 ∧ Q (.str (toString i)) := by unfold fmtP; exact wo_ite
theorem wo_fmtS : wo (fmtP (.str x)) Q ↔ x.length ≤ sizeLine ∧ Q (.str x) := by unfold fmtP; exact wo_ite
end
section
variable {M : Mem} {ρ : Rho} {Q : D → Mem → Prop} {ps : List P} {ds : List D}
theorem wp_ite {α : Type} {c : Prop} [Decidable c] {a : α} {Q : α → Mem → Prop} : wp (if c then some (.ok a, M) else none) Q ↔ c ∧ Q a M := by
  by_cases h : c
  · rw [if_pos h, wp_ok]; exact ⟨fun q => ⟨h, q⟩, fun q => q.2⟩
  · rw [if_neg h, wp_none]; exact ⟨fun q => q.elim, fun q => h q.1⟩
theorem wp_mkLA : wp (mkL (ps.map .p) M) Q ↔ ps.length ≤ sizeLine ∧ Q (.p (.lst ps)) M := by
  unfold mkL
  rw [allP_map]
  exact wp_ite
theorem wp_mkTA : wp (mkT (ps.map .p) M) Q ↔ ps.length ≤ sizeLine ∧ Q (.p (.tup ps)) M := by
  unfold mkT
  rw [allP_map]
  exact wp_ite
theorem wp_mkOA : wp (mkO ds M) Q ↔ ds.length ≤ sizeLine ∧ Q (.own M.length) (M ++ [.lst ds]) := by
  unfold mkO
  by_cases h : ds.length ≤ sizeLine
  · rw [if_pos h, wp_ok]; exact ⟨fun q => ⟨h, q⟩, fun q => q.2⟩
  · rw [if_neg h, wp_none]; exact ⟨fun q => q.elim, fun q => h q.1⟩
def jsK (r : List ME) (acc : Str) (ρ : Rho) (Q : D → Mem → Prop) : D → Mem → Prop := fun d M => match d with
  | .p (.str y) => (acc ++ y).length ≤ sizeLine ∧ wp (jsM r (acc ++ y) ρ M) Q
  | _ => False
theorem jsK_s {r : List ME} {acc y : Str} : jsK r acc ρ Q (.p (.str y)) M ↔ (acc ++ y).length ≤ sizeLine ∧ wp (jsM r (acc ++ y) ρ M) Q := Iff.rfl
theorem wp_js0 {acc : Str} : wp (jsM [] acc ρ M) Q ↔ Q (.p (.str acc)) M := wp_ok
theorem wp_js1 {m : ME} {r : List ME} {acc : Str} : wp (jsM (m :: r) acc ρ M) Q ↔ wp (m ρ M) (jsK r acc ρ Q) := by
  unfold jsM
  rw [wp_bind]
  refine wp_post fun d M => ?_
  cases d with
  | own n => simp [jsK, wp_none]
  | p v =>
    cases v with
    | str y =>
      simp only [jsK]
      by_cases h : (acc ++ y).length ≤ sizeLine
      · rw [if_pos h]; exact ⟨fun q => ⟨h, q⟩, fun q => q.2⟩
      · rw [if_neg h, wp_none]; exact ⟨fun q => q.elim, fun q => h q.1⟩
    | _ => simp [jsK, wp_none]
theorem wp_Joined {l : List ME} : wp (eJoined l ρ M) Q ↔ wp (jsM l Str.empty ρ M) Q := Iff.rfl
theorem wp_joinL {a : Str} {ys : List Str} : wp (joinD (.p (.str a)) [.p (.lst (ys.map .str))] M) Q ↔ (ys.map (·.length)).sum + ys.length * a.length ≤ 16777216 ∧ Q (.p (.str (Txt.join a ys))) M := by
  unfold joinD
  simp only [itemsD, allP_map, strs_map]
  exact wp_ite
theorem isS_str {a : Str} : isS (.p (.str a)) M = true := rfl
theorem truD_ex {b : Bool} {X : Bool → Prop} {d : D} (h : truD d M = some b) : (∃ c, truD d M = some c ∧ X c) ↔ X b := by
  rw [h]
  exact ⟨fun ⟨_, e, x⟩ => by cases e; exact x, fun x => ⟨b, rfl, x⟩⟩
end
/-! ### texts -/
theorem app_assoc (x y z : Str) : x ++ y ++ z = x ++ (y ++ z) := TL.ext_tl (by simp only [TL.tl_append, List.append_assoc])
theorem app_empty (x : Str) : Str.empty ++ x = x := TL.ext_tl (by rw [TL.tl_append]; rfl)
theorem app_nil (x : Str) : x ++ Str.ofString "" = x := TL.ext_tl (by rw [TL.tl_append]; have : TL.tl (Str.ofString "") = [] := by decide +kernel
                                                                      rw [this, List.append_nil])
theorem str_len_app (x y : Str) : (x ++ y).length = x.length + y.length := PySem.Str.length_append x y
theorem num_len {i : Int} (h0 : 0 ≤ i) (h : i < 10 ^ 9) : (Str.ofString (toString i)).length ≤ 9 := PyProof.Rows.toString_length_le h0 (by decide) h
theorem num_log {i : Int} (h0 : 0 ≤ i) (h : i < 10 ^ 9) : i.natAbs.log2 < 1920 := by
  by_cases hz : i.natAbs = 0
  · rw [hz]; decide
  · have : i.natAbs.log2 < 30 := by
      rw [Nat.log2_lt hz]
      omega
    omega
def sOk (x : Str) : Bool := PyData.canLay0 (.str x)
theorem sOk_iff {x : Str} : sOk x = true ↔ ∀ c ∈ x.cps.toList, c < 0x110000 := by
  unfold sOk
  rw [PyData.canLay0]
  unfold PyData.strOk
  rw [← Array.all_toList, List.all_eq_true]
  simp
theorem sOk_app {x y : Str} (h : sOk x = true) (h' : sOk y = true) : sOk (x ++ y) = true := by
  rw [sOk_iff] at *
  intro c hc
  have : (x ++ y).cps.toList = x.cps.toList ++ y.cps.toList := TL.tl_append x y
  rw [this] at hc
  rcases List.mem_append.mp hc with hc | hc
  · exact h c hc
  · exact h' c hc
theorem sOk_of (s : String) : sOk (Str.ofString s) = true := by
  rw [sOk_iff, Str.ofString_eq_toList]
  intro c hc
  obtain ⟨ch, _, rfl⟩ := List.mem_map.mp (show c ∈ s.toList.map Char.toNat by simpa using hc)
  have := ch.valid
  rcases this with h | h
  · have : ch.toNat < 0xd800 := h
    omega
  · exact h.2
theorem sOk_join {a : Str} (ha : sOk a = true) : ∀ {ys : List Str}, (∀ y ∈ ys, sOk y = true) → sOk (Txt.join a ys) = true := by
  intro ys h
  rw [TL.join_eq]
  induction ys with
  | nil => exact (show sOk Str.empty = true from sOk_iff.mpr (by intro c hc; cases hc))
  | cons y r ih =>
    cases r with
    | nil => exact h y (by simp)
    | cons z r =>
      show sOk (y ++ a ++ Str.join a (z :: r)) = true
      exact sOk_app (sOk_app (h y (by simp)) ha) (ih fun w hw => h w (by simp [hw]))
theorem join_len {a : Str} : ∀ {ys : List Str}, (Txt.join a ys).length ≤ (ys.map (·.length)).sum + ys.length * a.length := by
  intro ys
  rw [TL.join_eq]
  induction ys with
  | nil => exact Nat.zero_le _
  | cons y r ih =>
    cases r with
    | nil => show y.length ≤ _; simp
    | cons z r =>
      show (y ++ a ++ Str.join a (z :: r)).length ≤ _
      rw [str_len_app, str_len_app]
      simp only [List.map_cons, List.sum_cons, List.length_cons] at ih ⊢
      have : (r.length + 1 + 1) * a.length = (r.length + 1) * a.length + a.length := by rw [Nat.add_mul (r.length + 1) 1, Nat.one_mul]
      omega
theorem join_empty {a : Str} {ys : List Str} (h : ∀ y ∈ ys, 0 < y.length) : Txt.join a ys = Str.ofString "" ↔ ys = [] := by
  rw [TL.join_eq]
  have e0 : (Str.ofString "") = Str.empty := by decide +kernel
  rw [e0]
  cases ys with
  | nil => exact ⟨fun _ => rfl, fun _ => rfl⟩
  | cons y r =>
    refine ⟨fun e => ?_, fun e => by cases e⟩
    have hl := h y (by simp)
    have : 0 < (Str.join a (y :: r)).length := by
      cases r with
      | nil => exact hl
      | cons z r =>
        show 0 < (y ++ a ++ Str.join a (z :: r)).length
        rw [str_len_app, str_len_app]
        omega
    rw [e] at this
    exact absurd this (by decide)
theorem wo_neS {x y : Str} {Q : P → Prop} (hx : sOk x = true) (hy : sOk y = true) : wo (neP (.str x) (.str y)) Q ↔ Q (.bl (!decide (x = y))) := wo_of (by
  rw [neP_dat (d := 0) (by simpa [datB, sOk] using hx) (by simpa [datB, sOk] using hy)]
  simp only [toPy, PyData.eqv]
  by_cases h : x = y <;> simp [h])
theorem wo_eqS {x y : Str} {Q : P → Prop} (hx : sOk x = true) (hy : sOk y = true) : wo (eqP (.str x) (.str y)) Q ↔ Q (.bl (decide (x = y))) := wo_of (by
  rw [eqP_dat (d := 0) (by simpa [datB, sOk] using hx) (by simpa [datB, sOk] using hy)]
  simp only [toPy, PyData.eqv]
  by_cases h : x = y <;> simp [h])
end DL
namespace DL
open PySem
theorem eqv_tup {xs ys : List PyData} : PyData.eqv (.tuple xs) (.tuple ys) = PyData.eqvAll xs ys := by rw [PyData.eqv]
theorem eqv_lst {xs ys : List PyData} : PyData.eqv (.list xs) (.list ys) = PyData.eqvAll xs ys := by rw [PyData.eqv]
theorem eqvAll_nil : PyData.eqvAll [] [] = true := by rw [PyData.eqvAll]
theorem eqvAll_cons {x y : PyData} {xs ys : List PyData} : PyData.eqvAll (x :: xs) (y :: ys) = (PyData.eqv x y && PyData.eqvAll xs ys) := by rw [PyData.eqvAll]
end DL
namespace DL
theorem wp_ifF {ρ : Rho} {M : Mem} {t : MT} {a b : MS} {Q : Fl → Mem → Prop} (h : wp (t ρ M) fun c M' => c = false ∧ M' = M) (q : wp (b ρ M) Q) : wp (sIf t a b ρ M) Q :=
  wp_sIf.mpr (wp_val false h ⟨fun z => (Bool.false_ne_true z).elim, fun _ => q⟩)
theorem wp_ifT {ρ : Rho} {M : Mem} {t : MT} {a b : MS} {Q : Fl → Mem → Prop} (h : wp (t ρ M) fun c M' => c = true ∧ M' = M) (q : wp (a ρ M) Q) : wp (sIf t a b ρ M) Q :=
  wp_sIf.mpr (wp_val true h ⟨fun _ => q, fun z => (Bool.false_ne_true z.symm).elim⟩)
end DL

set_option maxHeartbeats 4000000
namespace DL
open PySem PySem.Spec PyProof.Rows L2
/-! ### webs as data -/
def marksP (ms : List Int) : P := .tup (ms.map .int)
def rise (ns : List Int) : Bool := (ns.zip ns.tail).all fun p => decide (p.1 < p.2)
structure HOk (hs : List (List Int)) : Prop where
  pos : 1 ≤ hs.length
  most : hs.length ≤ 5
  short : ∀ r ∈ hs, r.length ≤ 5
  rng : ∀ r ∈ hs, ∀ i ∈ r, 0 ≤ i ∧ i < hs.length
  ris : ∀ r ∈ hs, rise r = true
  own : ∀ (t : Nat) r, hs[t]? = some r → ((t : Nat) : Int) ∉ r
structure MOk (n : Nat) (ms : List Int) : Prop where
  len : ms.length = n
  rng : ∀ m ∈ ms, 0 ≤ m ∧ m ≤ 9999
def withOwn (hs : List (List Int)) : List (List Int) := hs.zipIdx.map fun x => sortI (x.1 ++ [((x.2 : Nat) : Int)])
def hearsAny (r f : List Int) : Bool := r.any fun y => decide (y ∈ f)
def ledStep (hs : List (List Int)) (f : List Int) (o : Nat) : List Int := if ((o : Nat) : Int) ∈ f then f else if hearsAny (hs.getD o []) f = true then f ++ [((o : Nat) : Int)] else f
def ledRound (hs : List (List Int)) (f : List Int) : List Int := (List.range hs.length).foldl (ledStep hs) f
def ledF (hs : List (List Int)) (t : Int) : List Int := (List.range hs.length).foldl (fun f _ => ledRound hs f) [t]
def ledS (hs : List (List Int)) (t : Int) : List Int := sortI (ledF hs t)
def rootsL (hs : List (List Int)) : List Int := (((List.range hs.length).map fun i => ((i : Nat) : Int)).filter fun t => decide ((ledS hs t).length = hs.length))
def pairsL (hs : List (List Int)) : List (Int × Int) := hs.zipIdx.flatMap fun x => x.1.map fun o => (((x.2 : Nat) : Int), o)
def pairsP (hs : List (List Int)) : P := .tup ((pairsL hs).map fun p => .tup [.int p.1, .int p.2])
def sigsL (hs : List (List Int)) (ms : List Int) : List P := ((withOwn hs).zip ms).map fun x => .tup [.tup (x.1.map .int), .int x.2]
def sigP (hs : List (List Int)) (ms : List Int) : P := .tup (sigsL hs ms)
def webP (hs : List (List Int)) (ms : List Int) : P := .obj "Web" [rowsP hs, .bl (decide (0 < maxL ms)), marksP ms, pairsP hs, .tup ((rootsL hs).map .int), sigP hs ms, .int hs.length]
/-- back from data -/
def rowOf : P → Option (List Int)
  | .tup xs => intsP xs
  | _ => none
def rowsOf : List P → Option (List (List Int))
  | [] => some []
  | x :: xs => match rowOf x, rowsOf xs with
    | some r, some rs => some (r :: rs)
    | _, _ => none
def heardOf : P → Option (List (List Int))
  | .tup xs => rowsOf xs
  | _ => none
theorem rowOf_eq {p : P} {r : List Int} (h : rowOf p = some r) : p = .tup (r.map .int) := by
  cases p <;> simp only [rowOf] at h <;> first | cases h | skip
  rw [ints_eq h]
theorem rowsOf_eq : ∀ {ps : List P} {rs : List (List Int)}, rowsOf ps = some rs → ps = rs.map fun r => .tup (r.map .int)
  | [], rs, h => by simp [rowsOf] at h; subst h; rfl
  | x :: xs, rs, h => by
    unfold rowsOf at h
    split at h
    · rename_i r rs' h1 h2
      have := Option.some.inj h
      subst this
      rw [rowOf_eq h1, rowsOf_eq h2]
      rfl
    · cases h
theorem heardOf_eq {p : P} {hs : List (List Int)} (h : heardOf p = some hs) : p = rowsP hs := by
  cases p <;> simp only [heardOf] at h <;> first | cases h | skip
  rw [rowsOf_eq h]; rfl
@[simp] theorem rowsOf_map (rs : List (List Int)) : rowsOf (rs.map fun r => .tup (r.map .int)) = some rs := by
  induction rs with
  | nil => rfl
  | cons r rs ih => simp [rowsOf, rowOf, ih]
@[simp] theorem heardOf_rows (hs : List (List Int)) : heardOf (rowsP hs) = some hs := by simp [heardOf, rowsP]
@[simp] theorem rowOf_marks (ms : List Int) : rowOf (marksP ms) = some ms := by simp [rowOf, marksP]
open Classical in
/-- Web(heard, marks) -/
noncomputable def mk_Web : List P → Option P
  | [h, m] => match heardOf h, rowOf m with
    | some hs, some ms => if HOk hs ∧ MOk hs.length ms then some (webP hs ms) else none
    | _, _ => none
  | _ => none
open Classical in
/-- Web(heard) -/
noncomputable def mk_Web1 : List P → Option P
  | [h] => match heardOf h with
    | some hs => if HOk hs then some (webP hs (List.replicate hs.length 0)) else none
    | none => none
  | _ => none
open Classical in
noncomputable def F_reached : List P → Option P
  | [h, .int t] => match heardOf h with
    | some hs => if HOk hs ∧ 0 ≤ t ∧ t < hs.length then some (.lst ((ledS hs t).map .int)) else none
    | none => none
  | _ => none
theorem mk_Web_eq {hs : List (List Int)} {ms : List Int} (h : HOk hs) (hm : MOk hs.length ms) : mk_Web [rowsP hs, marksP ms] = some (webP hs ms) := by
  simp [mk_Web, h, hm]
theorem mk_Web1_eq {hs : List (List Int)} (h : HOk hs) : mk_Web1 [rowsP hs] = some (webP hs (List.replicate hs.length 0)) := by
  simp [mk_Web1, h]
theorem F_reached_eq {hs : List (List Int)} {t : Int} (h : HOk hs) (h0 : 0 ≤ t) (h1 : t < hs.length) : F_reached [rowsP hs, .int t] = some (.lst ((ledS hs t).map .int)) := by
  simp [F_reached, h, h0, h1]
end DL

set_option maxHeartbeats 4000000
namespace DL
open PySem PySem.Spec PyProof.Rows L2
noncomputable section
/-! ### tables of this law -/
abbrev isiT : String ⊕ Str → String ⊕ Str → Option Bool := isiTab ["Web"]
abbrev cmpT : String ⊕ Str → Bool := cmpTab ["Web"]
abbrev slT (f : Str) : Str → Option Nat := slotTab [("Web", ["own_heard", "own_is_marked", "own_marks", "own_pairs", "own_roots", "own_signals", "own_size"])] f
@[simp] theorem slT_Web_own_heard : slT "own_heard" "Web" = some 0 := by decide +kernel
@[simp] theorem slT_Web_own_is_marked : slT "own_is_marked" "Web" = some 1 := by decide +kernel
@[simp] theorem slT_Web_own_marks : slT "own_marks" "Web" = some 2 := by decide +kernel
@[simp] theorem slT_Web_own_pairs : slT "own_pairs" "Web" = some 3 := by decide +kernel
@[simp] theorem slT_Web_own_roots : slT "own_roots" "Web" = some 4 := by decide +kernel
@[simp] theorem slT_Web_own_signals : slT "own_signals" "Web" = some 5 := by decide +kernel
@[simp] theorem slT_Web_own_size : slT "own_size" "Web" = some 6 := by decide +kernel
/-- _law_pouch: 0 _law_script, 1 _law_at, 2 _law_cell, 3 _law_great, 4 _law_start -/
def b__law_pouch : MS := (sSeq (sAsg (.n 2) (eIf (tCmp (lift2 ltI) (eVar 1) (eCallB lenO (aCons (eVar 0) aNil))) (eCallB (liftn (one intF)) (aCons (eOp ixD (eVar 0) (eVar 1)) aNil)) (eOp (lift2 addP) (eOp (lift2 mulP) (eC (.int (53))) (eVar 1)) (eC (.int (29))))))
    (sSeq (sAsg (.n 3) (eOp (lift2 modI) (eCallB (liftn (one absF)) (aCons (eVar 2) aNil)) (eOp (lift2 powI) (eC (.int (10))) (eC (.int (57))))))
    (sSeq (sAsg (.n 4) (eOp (lift2 addP) (eOp (lift2 addP) (eOp (lift2 addP) (eOp (lift2 mulP) (eOp (lift2 modI) (eVar 3) (eC (.int (4611686018427387847)))) (eC (.int (31)))) (eOp (lift2 mulP) (eC (.int (1009))) (eVar 1))) (eOp (lift2 mulP) (eC (.int (23))) (eCallB (liftn (one intF)) (aCons (eOp (lift2 ltI) (eVar 2) (eC (.int (0)))) aNil)))) (eC (.int (5)))))
    (sRet (eDisp mkO (aCons (eOp (lift2 modI) (eCallB (liftn maxF) (aCons (eC (.int (0))) (aCons (eOp (lift2 subI) (eCallB (liftn (one absF)) (aCons (eVar 2) aNil)) (eOp (lift2 powI) (eC (.int (10))) (eC (.int (17))))) aNil))) (eOp (lift2 mulP) (eOp (lift2 powI) (eC (.int (10))) (eC (.int (60)))) (eOp (lift2 powI) (eC (.int (10))) (eC (.int (60)))))) (aCons (eVar 4) (aCons (eC (.int (0))) aNil))))))))
def m__law_pouch : On := fnM 2 5 b__law_pouch

/-- _law_coin: 0 _law_pouch_here, 1 _law_total, 2 _law_one, 3 _law_two, 4 _law_found -/
def b__law_coin : MS := (sSeq (sIf (tCmp (lift2 gtI) (eOp ixD (eVar 0) (eC (.int (0)))) (eC (.int (0))))
    (sSeq (sAsg (.n 4) (eOp (lift2 modI) (eCallB (liftn (one intF)) (aCons (eOp ixD (eVar 0) (eC (.int (0)))) aNil)) (eVar 1)))
    (sSeq (sSub (eVar 0) (eC (.int (0))) (eOp (lift2 divI) (eOp ixD (eVar 0) (eC (.int (0)))) (eVar 1)))
    (sRet (eVar 4))))
    sNop)
    (sSeq (sSub (eVar 0) (eC (.int (2))) (eOp (lift2 addP) (eOp ixD (eVar 0) (eC (.int (2)))) (eC (.int (1)))))
    (sSeq (sAsg (.n 2) (eOp (lift2 modI) (eCallB (liftn (one intF)) (aCons (eOp (lift2 addP) (eOp ixD (eVar 0) (eC (.int (1)))) (eOp (lift2 mulP) (eC (.int (7541))) (eOp ixD (eVar 0) (eC (.int (2)))))) aNil)) (eC (.int (4611686018427387847)))))
    (sSeq (sAsg (.n 3) (eOp (lift2 modI) (eCallB (liftn (one intF)) (aCons (eOp (lift2 addP) (eOp (lift2 mulP) (eVar 2) (eVar 2)) (eOp (lift2 mulP) (eC (.int (97))) (eOp ixD (eVar 0) (eC (.int (2)))))) aNil)) (eC (.int (4611686018427387733)))))
    (sRet (eOp (lift2 modI) (eCallB (liftn (one intF)) (aCons (eOp (lift2 divI) (eCallB (liftn (one intF)) (aCons (eOp (lift2 addP) (eOp (lift2 mulP) (eVar 3) (eC (.int (2654435769)))) (eVar 2)) aNil)) (eC (.int (32768)))) aNil)) (eVar 1)))))))
def m__law_coin : On := fnM 2 5 b__law_coin

/-- _law_any: 0 _law_pouch_here, 1 _law_items -/
def b__law_any : MS := (sRet (eOp ixD (eVar 1) (eCall m__law_coin (aCons (eVar 0) (aCons (eCallB lenO (aCons (eVar 1) aNil)) aNil)))))
def m__law_any : On := fnM 2 2 b__law_any

/-- _law_marks: 0 _law_pouch_here, 1 _law_size, 2 _law_thread -/
def b__law_marks : MS := (sSeq (sIf (tCmp (lift2 gtI) (eCall m__law_coin (aCons (eVar 0) (aCons (eC (.int (3))) aNil))) (eC (.int (0))))
    (sRet (eOp (lift2 mulP) (eDisp mkT (aCons (eC (.int (0))) aNil)) (eVar 1)))
    sNop)
    (sRet (eCallB tupleF (aCons (eLc mkL (aRng1 (aCons (eVar 1) aNil)) (.n 2) tYesM (eCall m__law_any (aCons (eVar 0) (aCons (eDisp mkL (aCons (eC (.int (0))) (aCons (eC (.int (0))) (aCons (eC (.int (1))) (aCons (eC (.int (7))) (aCons (eC (.int (9999))) aNil)))))) aNil))) [2]) aNil))))
def m__law_marks : On := fnM 2 3 b__law_marks

/-- _law_heard: 0 _law_pouch_here, 1 _law_size, 2 _law_thread, 3 _law_found, 4 _law_share, 5 _law_other -/
def b__law_heard : MS := (sSeq (sPar 3 4 (aCons (eDisp mkO aNil) (aCons (eOp (lift2 addP) (eC (.int (2))) (eCall m__law_coin (aCons (eVar 0) (aCons (eC (.int (3))) aNil)))) aNil)))
    (sSeq (sFor (aRng1 (aCons (eVar 1) aNil)) (.n 2)
    (sExpr (eBm isL appD (eVar 3) (aCons (eCallB tupleF (aCons (eLc mkL (aRng1 (aCons (eVar 1) aNil)) (.n 5) (tAndM (tCmp (look2 neP) (eVar 5) (eVar 2)) (tCmp (look2 eqP) (eCall m__law_coin (aCons (eVar 0) (aCons (eVar 4) aNil))) (eC (.int (0))))) (eVar 5) [5]) aNil)) aNil))))
    (sRet (eCallB tupleF (aCons (eVar 3) aNil)))))
def m__law_heard : On := fnM 2 6 b__law_heard

/-- _law_plain_web: 0 _law_pouch_here, 1 _law_size -/
def b__law_plain_web : MS := (sRet (eDisp mkT (aCons (eCall m__law_heard (aCons (eVar 0) (aCons (eVar 1) aNil))) (aCons (eCall m__law_marks (aCons (eVar 0) (aCons (eVar 1) aNil))) aNil))))
def m__law_plain_web : On := fnM 2 2 b__law_plain_web

/-- is_integer: 0 value -/
def b_is_integer : MS := (sRet (eAnd (eCallB (isiO isiT) (aCons (eVar 0) (aCons (eC (.ty "int")) aNil))) (eAnd (eUn notD (eCallB (isiO isiT) (aCons (eVar 0) (aCons (eC (.ty "bool")) aNil)))) (eChain (lift2 ltI) (lift2 ltI) (eUn (lift1 negP) (eC (.int (1000000000000000000000000000000000000000000000000000000000000)))) (eVar 0) (eC (.int (1000000000000000000000000000000000000000000000000000000000000)))))))
def m_is_integer : On := fnM 1 1 b_is_integer

/-- is_between: 0 value, 1 low, 2 high -/
def b_is_between : MS := (sRet (eAnd (eCall m_is_integer (aCons (eVar 0) aNil)) (eChain (lift2 leI) (lift2 leI) (eVar 1) (eVar 0) (eVar 2))))
def m_is_between : On := fnM 3 3 b_is_between

/-- is_index: 0 value, 1 many -/
def b_is_index : MS := (sRet (eCall m_is_between (aCons (eVar 0) (aCons (eC (.int (0))) (aCons (eOp (lift2 subI) (eVar 1) (eC (.int (1)))) aNil)))))
def m_is_index : On := fnM 2 2 b_is_index

/-- are_indices: 0 value, 1 many, 2 one -/
def b_are_indices : MS := (sRet (eAnd (eCallB (isiO isiT) (aCons (eVar 0) (aCons (eC (.ty "tuple")) aNil))) (eCallB (liftn (one allF)) (aCons (eLc mkL (aSeq (eVar 0)) (.n 2) tYesM (eCall m_is_index (aCons (eVar 2) (aCons (eVar 1) aNil))) [2]) aNil))))
def m_are_indices : On := fnM 2 3 b_are_indices

/-- are_rising: 0 value, 1 many, 2 one, 3 other -/
def b_are_rising : MS := (sRet (eAnd (eCall m_are_indices (aCons (eVar 0) (aCons (eVar 1) aNil))) (eCallB (liftn (one allF)) (aCons (eLc mkL (aZip (aCons (eVar 0) (aCons (eSlice (eVar 0) (oSome (eC (.int (1)))) oNone) aNil))) (.t [2, 3]) tYesM (eOp (lift2 ltI) (eVar 2) (eVar 3)) [2, 3]) aNil))))
def m_are_rising : On := fnM 2 4 b_are_rising

/-- are_heard: 0 value, 1 thread, 2 one -/
def b_are_heard : MS := (sSeq (sIf (tOrM (tNotM (tru (eCallB (isiO isiT) (aCons (eVar 0) (aCons (eC (.ty "tuple")) aNil))))) (tNotM (tChn (lift2 leI) (lift2 leI) (eC (.int (1))) (eCallB lenO (aCons (eVar 0) aNil)) (eC (.int (5))))))
    (sRet (eC (.bl false)))
    sNop)
    (sRet (eCallB (liftn (one allF)) (aCons (eLc mkL (aEnum (aCons (eVar 0) aNil)) (.t [1, 2]) tYesM (eAnd (eCall m_are_rising (aCons (eVar 2) (aCons (eCallB lenO (aCons (eVar 0) aNil)) aNil))) (eOp (look2 ninP) (eVar 1) (eVar 2))) [1, 2]) aNil))))
def m_are_heard : On := fnM 1 3 b_are_heard

/-- is_mark: 0 value -/
def b_is_mark : MS := (sRet (eCall m_is_between (aCons (eVar 0) (aCons (eC (.int (0))) (aCons (eC (.int (9999))) aNil)))))
def m_is_mark : On := fnM 1 1 b_is_mark

/-- are_marks: 0 value, 1 size, 2 mark -/
def b_are_marks : MS := (sRet (eAnd (eCallB (isiO isiT) (aCons (eVar 0) (aCons (eC (.ty "tuple")) aNil))) (eAnd (eOp (look2 eqP) (eCallB lenO (aCons (eVar 0) aNil)) (eVar 1)) (eCallB (liftn (one allF)) (aCons (eLc mkL (aSeq (eVar 0)) (.n 2) tYesM (eCall m_is_mark (aCons (eVar 2) aNil)) [2]) aNil)))))
def m_are_marks : On := fnM 2 3 b_are_marks

/-- with_itself: 0 heard, 1 thread, 2 one -/
def b_with_itself : MS := (sRet (eCallB tupleF (aCons (eLc mkL (aEnum (aCons (eVar 0) aNil)) (.t [1, 2]) tYesM (eCallB tupleF (aCons (eCallB sortedA (aCons (eDisp mkL (aStar (eVar 2) (aCons (eVar 1) aNil))) aNil)) aNil)) [1, 2]) aNil)))
def m_with_itself : On := fnM 1 3 b_with_itself

/-- reached_from: 0 heard, 1 thread, 2 found, 3 waiting, 4 here, 5 other, 6 one -/
def b_reached_from : MS := (sSeq (sPar 2 3 (aCons (eDict [((eVar 1), (eC (.bl true)))]) (aCons (eDisp mkO (aCons (eVar 1) aNil)) aNil)))
    (sSeq (sWhile 100 (tru (eVar 3))
    (sSeq (sAsg (.n 4) (eBm isL popD (eVar 3) aNil))
    (sFor (aEnum (aCons (eVar 0) aNil)) (.t [5, 6])
    (sIf (tAndM (tCmp (look2 inP) (eVar 4) (eVar 6)) (tCmp ninDic (eVar 5) (eVar 2)))
    (sSeq (sPut (eVar 2) (eVar 5) (eC (.bl true)))
    (sExpr (eBm isL appD (eVar 3) (aCons (eVar 5) aNil))))
    sNop))))
    (sRet (eCallB sortedA (aCons (eVar 2) aNil)))))
def m_reached_from : On := fnM 2 7 b_reached_from

/-- roots_of: 0 heard, 1 thread -/
def b_roots_of : MS := (sRet (eCallB tupleF (aCons (eLc mkL (aRng1 (aCons (eCallB lenO (aCons (eVar 0) aNil)) aNil)) (.n 1) (tCmp (look2 eqP) (eCallB lenO (aCons (eCall (liftn F_reached) (aCons (eVar 0) (aCons (eVar 1) aNil))) aNil)) (eCallB lenO (aCons (eVar 0) aNil))) (eVar 1) [1]) aNil)))
def m_roots_of : On := fnM 1 2 b_roots_of

/-- Web.__init__: 0 self, 1 heard, 2 marks, 3 other, 4 thread, 5 one -/
def b_Web___init__ : MS := (sSeq (sIf (tOrM (tNotM (tru (eCall m_are_heard (aCons (eVar 1) aNil)))) (tAndM (tCmp notND (eVar 2) (eC .non)) (tNotM (tru (eCall m_are_marks (aCons (eVar 2) (aCons (eCallB lenO (aCons (eVar 1) aNil)) aNil)))))))
    sNever
    sNop)
    (sSeq (sSlot (slT "own_heard") (eVar 0) (eVar 1))
    (sSeq (sSlot (slT "own_size") (eVar 0) (eCallB lenO (aCons (eVar 1) aNil)))
    (sSeq (sSlot (slT "own_marks") (eVar 0) (eIf (tCmp isND (eVar 2) (eC .non)) (eOp (lift2 mulP) (eDisp mkT (aCons (eC (.int (0))) aNil)) (eCallB lenO (aCons (eVar 1) aNil))) (eVar 2)))
    (sSeq (sSlot (slT "own_signals") (eVar 0) (eCallB tupleF (aCons (eCallB (liftn lzipF) (aCons (eCall m_with_itself (aCons (eVar 1) aNil)) (aCons (eUn (slotD (slT "own_marks")) (eVar 0)) aNil))) aNil)))
    (sSeq (sSlot (slT "own_is_marked") (eVar 0) (eOp (lift2 gtI) (eCallB (liftn maxF) (aCons (eUn (slotD (slT "own_marks")) (eVar 0)) aNil)) (eC (.int (0)))))
    (sSeq (sSlot (slT "own_roots") (eVar 0) (eCall m_roots_of (aCons (eVar 1) aNil)))
    (sSlot (slT "own_pairs") (eVar 0) (eCallB tupleF (aCons (eLc2 mkL (aEnum (aCons (eVar 1) aNil)) (.t [4, 5]) tYesM (aSeq (eVar 5)) (.n 3) tYesM (eDisp mkT (aCons (eVar 4) (aCons (eVar 3) aNil))) [4, 5, 3] [3]) aNil))))))))))
def m_Web___init__ : On := fnM 3 6 b_Web___init__

/-- Web.is_marked: 0 self -/
def b_Web_is_marked : MS := (sRet (eUn (slotD (slT "own_is_marked")) (eVar 0)))
def m_Web_is_marked : On := fnM 1 1 b_Web_is_marked

/-- Web.signals: 0 self -/
def b_Web_signals : MS := (sRet (eUn (slotD (slT "own_signals")) (eVar 0)))
def m_Web_signals : On := fnM 1 1 b_Web_signals

/-- Web.size: 0 self -/
def b_Web_size : MS := (sRet (eUn (slotD (slT "own_size")) (eVar 0)))
def m_Web_size : On := fnM 1 1 b_Web_size

/-- Web.marks: 0 self -/
def b_Web_marks : MS := (sRet (eUn (slotD (slT "own_marks")) (eVar 0)))
def m_Web_marks : On := fnM 1 1 b_Web_marks

/-- Web.heard: 0 self -/
def b_Web_heard : MS := (sRet (eUn (slotD (slT "own_heard")) (eVar 0)))
def m_Web_heard : On := fnM 1 1 b_Web_heard

/-- Web.roots: 0 self -/
def b_Web_roots : MS := (sRet (eUn (slotD (slT "own_roots")) (eVar 0)))
def m_Web_roots : On := fnM 1 1 b_Web_roots

/-- _law_led: 0 _law_heard_here, 1 _law_thread, 2 _law_found, 3 _law_turn, 4 _law_other, 5 _law_one -/
def b__law_led : MS := (sSeq (sAsg (.n 2) (eDisp mkO (aCons (eVar 1) aNil)))
    (sSeq (sFor (aRng1 (aCons (eCallB lenO (aCons (eVar 0) aNil)) aNil)) (.n 3)
    (sFor (aRng1 (aCons (eCallB lenO (aCons (eVar 0) aNil)) aNil)) (.n 4)
    (sIf (tAndM (tCmp (look2 ninP) (eVar 4) (eVar 2)) (tCmp (look2 neP) (eLc mkL (aSeq (eOp ixD (eVar 0) (eVar 4))) (.n 5) (tCmp (look2 inP) (eVar 5) (eVar 2)) (eVar 5) [5]) (eDisp mkL aNil)))
    (sExpr (eBm isL appD (eVar 2) (aCons (eVar 4) aNil)))
    sNop)))
    (sRet (eCallB sortedA (aCons (eVar 2) aNil)))))
def m__law_led : On := fnM 2 6 b__law_led

/-- _law_root_list: 0 _law_heard_here, 1 _law_thread -/
def b__law_root_list : MS := (sRet (eLc mkL (aRng1 (aCons (eCallB lenO (aCons (eVar 0) aNil)) aNil)) (.n 1) (tCmp (look2 eqP) (eCallB lenO (aCons (eCall (liftn F_reached) (aCons (eVar 0) (aCons (eVar 1) aNil))) aNil)) (eCallB lenO (aCons (eVar 0) aNil))) (eVar 1) [1]))
def m__law_root_list : On := fnM 1 2 b__law_root_list

/-- Web.__len__: 0 self -/
def b_Web___len__ : MS := (sRet (eCallB lenO (aCons (eUn (slotD (slT "own_pairs")) (eVar 0)) aNil)))
def m_Web___len__ : On := fnM 1 1 b_Web___len__

/-- require_index: 0 value, 1 many -/
def b_require_index : MS := (sIf (tNotM (tru (eCall m_is_index (aCons (eVar 0) (aCons (eVar 1) aNil)))))
    sNever
    sNop)
def m_require_index : On := fnM 2 2 b_require_index

/-- Web.signal: 0 self, 1 thread -/
def b_Web_signal : MS := (sSeq (sExpr (eCall m_require_index (aCons (eVar 1) (aCons (eUn (slotD (slT "own_size")) (eVar 0)) aNil))))
    (sRet (eOp ixD (eUn (slotD (slT "own_signals")) (eVar 0)) (eVar 1))))
def m_Web_signal : On := fnM 2 2 b_Web_signal

/-- Web.hears: 0 self, 1 thread -/
def b_Web_hears : MS := (sSeq (sExpr (eCall m_require_index (aCons (eVar 1) (aCons (eUn (slotD (slT "own_size")) (eVar 0)) aNil))))
    (sRet (eOp ixD (eOp ixD (eUn (slotD (slT "own_signals")) (eVar 0)) (eVar 1)) (eC (.int (0))))))
def m_Web_hears : On := fnM 2 2 b_Web_hears

/-- Web.reached: 0 self, 1 thread -/
def b_Web_reached : MS := (sSeq (sExpr (eCall m_require_index (aCons (eVar 1) (aCons (eUn (slotD (slT "own_size")) (eVar 0)) aNil))))
    (sRet (eCallB tupleF (aCons (eCall (liftn F_reached) (aCons (eUn (slotD (slT "own_heard")) (eVar 0)) (aCons (eVar 1) aNil))) aNil))))
def m_Web_reached : On := fnM 2 2 b_Web_reached

/-- is_plain_pair: 0 value, 1 one -/
def b_is_plain_pair : MS := (sRet (eCallB (liftn (one allF)) (aCons (eLc mkL (aSeq (eVar 0)) (.n 1) tYesM (eUn notD (eCallB (isiO isiT) (aCons (eVar 1) (aCons (eC (.ty "bool")) aNil)))) [1]) aNil)))
def m_is_plain_pair : On := fnM 1 2 b_is_plain_pair

/-- Web.__contains__: 0 self, 1 value -/
def b_Web___contains__ : MS := (sRet (eAnd (eCallB (isiO isiT) (aCons (eVar 1) (aCons (eC (.ty "tuple")) aNil))) (eAnd (eOp (look2 eqP) (eCallB lenO (aCons (eVar 1) aNil)) (eC (.int (2)))) (eAnd (eOp (look2 inP) (eVar 1) (eUn (slotD (slT "own_pairs")) (eVar 0))) (eCall m_is_plain_pair (aCons (eVar 1) aNil))))))
def m_Web___contains__ : On := fnM 2 2 b_Web___contains__

/-- Web.__str__: 0 self, 1 told, 2 marks, 3 thread, 4 other, 5 mark -/
def b_Web___str__ : MS := (sSeq (sAsg (.n 1) (eBm isS joinD (eC (.str ", ")) (aCons (eLc mkL (aSeq (eUn (slotD (slT "own_pairs")) (eVar 0))) (.t [3, 4]) tYesM (eJoined [(eUn (lift1 fmtP) (eVar 3)), (eC (.str " hears ")), (eUn (lift1 fmtP) (eVar 4))]) [3, 4]) aNil)))
    (sSeq (sAsg (.n 2) (eIf (tru (eUn (slotD (slT "own_is_marked")) (eVar 0))) (eJoined [(eC (.str "; marks ")), (eUn (lift1 fmtP) (eBm isS joinD (eC (.str " ")) (aCons (eLc mkL (aSeq (eUn (slotD (slT "own_marks")) (eVar 0))) (.n 5) tYesM (eCallB (liftn (one strF)) (aCons (eVar 5) aNil)) [5]) aNil)))]) (eC (.str ""))))
    (sRet (eJoined [(eC (.str "web of ")), (eUn (lift1 fmtP) (eUn (slotD (slT "own_size")) (eVar 0))), (eC (.str " threads: ")), (eUn (lift1 fmtP) (eIf (tCmp (look2 neP) (eVar 1) (eC (.str ""))) (eVar 1) (eC (.str "nobody hears")))), (eUn (lift1 fmtP) (eVar 2))]))))
def m_Web___str__ : On := fnM 1 6 b_Web___str__

/-- _law_text: 0 _law_heard_here, 1 _law_marks_here, 2 _law_pairs, 3 _law_told, 4 _law_end, 5 _law_thread, 6 _law_row, 7 _law_other, 8 _law_mark -/
def b__law_text : MS := (sSeq (sAsg (.n 2) (eDisp mkL aNil))
    (sSeq (sFor (aEnum (aCons (eVar 0) aNil)) (.t [5, 6])
    (sAsg (.n 2) (eOp (lift2 addP) (eVar 2) (eLc mkL (aSeq (eVar 6)) (.n 7) tYesM (eOp (lift2 addP) (eOp (lift2 addP) (eCallB (liftn (one strF)) (aCons (eVar 5) aNil)) (eC (.str " hears "))) (eCallB (liftn (one strF)) (aCons (eVar 7) aNil))) [7]))))
    (sSeq (sAsg (.n 3) (eIf (tCmp (look2 neP) (eVar 2) (eDisp mkL aNil)) (eBm isS joinD (eC (.str ", ")) (aCons (eVar 2) aNil)) (eC (.str "nobody hears"))))
    (sSeq (sAsg (.n 4) (eIf (tCmp (lift2 gtI) (eCallB (liftn maxF) (aCons (eVar 1) aNil)) (eC (.int (0)))) (eOp (lift2 addP) (eC (.str "; marks ")) (eBm isS joinD (eC (.str " ")) (aCons (eLc mkL (aSeq (eVar 1)) (.n 8) tYesM (eCallB (liftn (one strF)) (aCons (eVar 8) aNil)) [8]) aNil))) (eC (.str ""))))
    (sRet (eOp (lift2 addP) (eOp (lift2 addP) (eOp (lift2 addP) (eOp (lift2 addP) (eC (.str "web of ")) (eCallB (liftn (one strF)) (aCons (eCallB lenO (aCons (eVar 0) aNil)) aNil))) (eC (.str " threads: "))) (eVar 3)) (eVar 4)))))))
def m__law_text : On := fnM 2 9 b__law_text

/-- Web.__eq__: 0 self, 1 other -/
def b_Web___eq__ : MS := (sRet (eAnd (eCallB (isiO isiT) (aCons (eVar 1) (aCons (eC (.cls "Web")) aNil))) (eAnd (eOp (look2 eqP) (eUn (slotD (slT "own_heard")) (eVar 0)) (eUn (slotD (slT "own_heard")) (eVar 1))) (eOp (look2 eqP) (eUn (slotD (slT "own_marks")) (eVar 0)) (eUn (slotD (slT "own_marks")) (eVar 1))))))
def m_Web___eq__ : On := fnM 2 2 b_Web___eq__

/-- _law_web_of: 0 _law_plain -/
def b__law_web_of : MS := (sRet (eCallB (liftn mk_Web) (aCons (eOp ixD (eVar 0) (eC (.int (0)))) (aCons (eOp ixD (eVar 0) (eC (.int (1)))) aNil))))
def m__law_web_of : On := fnM 1 1 b__law_web_of

/-- _law_right: 0 _law_pouch_here, 1 _law_size, 2 _law_web, 3 _law_with_own, 4 _law_signals_here, 5 _law_thread, 6 _law_odd, 7 _law_other, 8 _law_heard_here, 9 _law_marks_here, 10 _law_row -/
def b__law_right : MS := (sSeq (sAsg (.n 1) (eOp (lift2 addP) (eC (.int (1))) (eCall m__law_coin (aCons (eVar 0) (aCons (eC (.int (5))) aNil)))))
    (sSeq (sAsg (.t [8, 9]) (eCall m__law_plain_web (aCons (eVar 0) (aCons (eVar 1) aNil))))
    (sSeq (sAsg (.n 2) (eCallB (liftn mk_Web) (aCons (eVar 8) (aCons (eVar 9) aNil))))
    (sSeq (sAsg (.n 3) (eLc mkL (aRng1 (aCons (eVar 1) aNil)) (.n 5) tYesM (eCallB tupleF (aCons (eCallB sortedA (aCons (eOp (lift2 addP) (eOp ixD (eVar 8) (eVar 5)) (eDisp mkT (aCons (eVar 5) aNil))) aNil)) aNil)) [5]))
    (sSeq (sAsg (.n 4) (eCallB tupleF (aCons (eLc mkL (aRng1 (aCons (eVar 1) aNil)) (.n 5) tYesM (eDisp mkT (aCons (eOp ixD (eVar 3) (eVar 5)) (aCons (eOp ixD (eVar 9) (eVar 5)) aNil))) [5]) aNil)))
    (sSeq (sIf (tCmp (look2 neP) (eDisp mkL (aCons (eProp "Web" m_Web_heard (eVar 2)) (aCons (eProp "Web" m_Web_marks (eVar 2)) (aCons (eProp "Web" m_Web_size (eVar 2)) (aCons (eProp "Web" m_Web_signals (eVar 2)) (aCons (eProp "Web" m_Web_is_marked (eVar 2)) aNil)))))) (eDisp mkL (aCons (eVar 8) (aCons (eVar 9) (aCons (eVar 1) (aCons (eVar 4) (aCons (eOp (lift2 gtI) (eCallB (liftn maxF) (aCons (eVar 9) aNil)) (eC (.int (0)))) aNil)))))))
    (sRet (eC (.bl false)))
    sNop)
    (sSeq (sIf (tOrM (tCmp (look2 neP) (eProp "Web" m_Web_roots (eVar 2)) (eCallB tupleF (aCons (eCall m__law_root_list (aCons (eVar 8) aNil)) aNil))) (tCmp (look2 neP) (eCallB (ownLen "Web" m_Web___len__) (aCons (eVar 2) aNil)) (eCallB (liftn (one sumF)) (aCons (eLc mkL (aSeq (eVar 8)) (.n 10) tYesM (eCallB lenO (aCons (eVar 10) aNil)) [10]) aNil))))
    (sRet (eC (.bl false)))
    sNop)
    (sSeq (sFor (aRng1 (aCons (eVar 1) aNil)) (.n 5)
    (sSeq (sIf (tOrM (tCmp (look2 neP) (eMeth "Web" m_Web_signal (eVar 2) (aCons (eVar 5) aNil)) (eOp ixD (eVar 4) (eVar 5))) (tCmp (look2 neP) (eMeth "Web" m_Web_hears (eVar 2) (aCons (eVar 5) aNil)) (eOp ixD (eVar 3) (eVar 5))))
    (sRet (eC (.bl false)))
    sNop)
    (sSeq (sIf (tCmp (look2 neP) (eMeth "Web" m_Web_reached (eVar 2) (aCons (eVar 5) aNil)) (eCallB tupleF (aCons (eCall (liftn F_reached) (aCons (eVar 8) (aCons (eVar 5) aNil))) aNil)))
    (sRet (eC (.bl false)))
    sNop)
    (sIf (tCmp (look2 neP) (eLc mkL (aRng1 (aCons (eVar 1) aNil)) (.n 7) (tCmp (ownIn "Web" m_Web___contains__ false) (eDisp mkT (aCons (eVar 5) (aCons (eVar 7) aNil))) (eVar 2)) (eVar 7) [7]) (eCallB listF (aCons (eOp ixD (eVar 8) (eVar 5)) aNil)))
    (sRet (eC (.bl false)))
    sNop))))
    (sSeq (sAsg (.n 6) (eCall m__law_any (aCons (eVar 0) (aCons (eDisp mkL (aCons (eC .non) (aCons (eC (.int (0))) (aCons (eDisp mkT (aCons (eC (.int (0))) aNil)) (aCons (eDisp mkL (aCons (eC (.int (0))) (aCons (eC (.int (1))) aNil))) (aCons (eDisp mkT (aCons (eC (.int (0))) (aCons (eC (.int (0))) aNil))) (aCons (eDisp mkT (aCons (eC (.int (0))) (aCons (eVar 1) aNil))) (aCons (eDisp mkT (aCons (eUn (lift1 negP) (eC (.int (1)))) (aCons (eC (.int (0))) aNil))) (aCons (eDisp mkT (aCons (eC (.bl true)) (aCons (eC (.int (0))) aNil))) (aCons (eDisp mkT (aCons (eC (.str "0")) (aCons (eC (.int (1))) aNil))) (aCons (eDisp mkT (aCons (eC (.int (0))) (aCons (eC (.int (1))) (aCons (eC (.int (2))) aNil)))) (aCons eNewP aNil)))))))))))) aNil))))
    (sSeq (sIf (tOrM (tCmp (ownIn "Web" m_Web___contains__ false) (eVar 6) (eVar 2)) (tCmp (look2 neP) (eCallB (ownStr "Web" m_Web___str__) (aCons (eVar 2) aNil)) (eCall m__law_text (aCons (eVar 8) (aCons (eVar 9) aNil)))))
    (sRet (eC (.bl false)))
    sNop)
    (sSeq (sAsg (.n 7) (eCall m__law_plain_web (aCons (eVar 0) (aCons (eVar 1) aNil))))
    (sSeq (sIf (tOrM (tCmp (look2 neP) (eOp (ownCmp "Web" m_Web___eq__ cmpT) (eCall m__law_web_of (aCons (eVar 7) aNil)) (eVar 2)) (eOp (look2 eqP) (eVar 7) (eDisp mkT (aCons (eVar 8) (aCons (eVar 9) aNil))))) (tCmp (ownCmp "Web" m_Web___eq__ cmpT) (eVar 2) (eDisp mkT (aCons (eVar 8) (aCons (eVar 9) aNil)))))
    (sRet (eC (.bl false)))
    sNop)
    (sRet (eOr (eOp (lift2 gtI) (eCallB (liftn maxF) (aCons (eVar 9) aNil)) (eC (.int (0)))) (eOp (ownCmp "Web" m_Web___eq__ cmpT) (eCallB (liftn mk_Web1) (aCons (eVar 8) aNil)) (eVar 2))))))))))))))))
def m__law_right : On := fnM 1 11 b__law_right

/-- law: 0 _law_script, 1 _law_at, 2 _law_ring, 3 _law_text_here, 4 _law_pouch_here, 5 _law_turn -/
def b_law : MS := (sSeq (sFor (aRng1 (aCons (eCallB (liftn maxF) (aCons (eC (.int (1))) (aCons (eCallB (liftn minF) (aCons (eC (.int (4))) (aCons (eCallB lenO (aCons (eVar 0) aNil)) aNil))) aNil))) aNil)) (.n 1)
    (sSeq (sAsg (.n 4) (eCall m__law_pouch (aCons (eVar 0) (aCons (eVar 1) aNil))))
    (sFor (aRng1 (aCons (eC (.int (4))) aNil)) (.n 5)
    (sIf (tNotM (tru (eCall m__law_right (aCons (eVar 4) aNil))))
    (sRet (eC (.bl false)))
    sNop))))
    (sSeq (sAsg (.n 2) (eCallB (liftn mk_Web) (aCons (eDisp mkT (aCons (eDisp mkT (aCons (eC (.int (4))) aNil)) (aCons (eDisp mkT (aCons (eC (.int (0))) aNil)) (aCons (eDisp mkT (aCons (eC (.int (1))) aNil)) (aCons (eDisp mkT (aCons (eC (.int (2))) aNil)) (aCons (eDisp mkT (aCons (eC (.int (3))) aNil)) aNil)))))) (aCons (eDisp mkT (aCons (eC (.int (0))) (aCons (eC (.int (0))) (aCons (eC (.int (5))) (aCons (eC (.int (0))) (aCons (eC (.int (0))) aNil)))))) aNil))))
    (sSeq (sAsg (.n 3) (eC (.str "web of 5 threads: 0 hears 4, 1 hears 0, 2 hears 1, 3 hears 2, 4 hears 3; marks 0 0 5 0 0")))
    (sRet (eAnd (eOp (look2 eqP) (eProp "Web" m_Web_roots (eVar 2)) (eDisp mkT (aCons (eC (.int (0))) (aCons (eC (.int (1))) (aCons (eC (.int (2))) (aCons (eC (.int (3))) (aCons (eC (.int (4))) aNil))))))) (eAnd (eOp (look2 eqP) (eCallB (ownStr "Web" m_Web___str__) (aCons (eVar 2) aNil)) (eVar 3)) (eOp (look2 eqP) (eMeth "Web" m_Web_reached (eVar 2) (aCons (eC (.int (2))) aNil)) (eDisp mkT (aCons (eC (.int (0))) (aCons (eC (.int (1))) (aCons (eC (.int (2))) (aCons (eC (.int (3))) (aCons (eC (.int (4))) aNil)))))))))))))
def m_law : On := fnM 1 6 b_law

end
end DL

set_option maxHeartbeats 4000000
namespace DL
open PySem PySem.Spec PyProof.Rows L2
/-! ### isinstance -/
def tyP : P → Option (String ⊕ Str)
  | .non => some (.inl "NoneType")
  | .bl _ => some (.inl "bool")
  | .int _ => some (.inl "int")
  | .str _ => some (.inl "str")
  | .tup _ => some (.inl "tuple")
  | .lst _ => some (.inl "list")
  | .dic _ _ => some (.inl "dict")
  | .obj c _ => some (.inr c)
  | _ => none
def okP (p : P) : Bool := match tyP p with
  | some t => cmpT t
  | none => false
theorem tyD_p (p : P) (M : Mem) : tyD (.p p) M = tyP p := by cases p <;> rfl
def isTy (n : String) (p : P) : Bool := match tyP p with
  | some (.inl m) => decide (m = n) || (decide (m = "bool") && decide (n = "int"))
  | _ => false
/-- isinstance against a built-in type -/
theorem isi_ty {p : P} {n : String} (h : okP p = true) (hn : hasB n = true) (M : Mem) : isiO isiT [.p p, .p (.ty n)] M = some (.ok (.p (.bl (isTy n p))), M) := by
  unfold isiO
  simp only [tyD_p, clsD]
  unfold okP at h
  cases ht : tyP p with
  | none => rw [ht] at h; cases h
  | some t =>
    rw [ht] at h
    unfold isTy
    rw [ht]
    cases t with
    | inl m =>
      have hm : hasB m = true := h
      simp only [isiTab, hm, hn, Bool.and_self, if_true]
    | inr c =>
      have hm := h
      unfold cmpT cmpTab at hm
      simp only [isiTab, hm, hn, Bool.and_self, if_true]
theorem hasB_int : hasB "int" = true := by decide
theorem hasB_bool : hasB "bool" = true := by decide
theorem hasB_tuple : hasB "tuple" = true := by decide
@[simp] theorem okP_int {i : Int} : okP (.int i) = true := by show hasB "int" = true; decide
@[simp] theorem okP_tup {xs : List P} : okP (.tup xs) = true := by show hasB "tuple" = true; decide
@[simp] theorem isi_tup {xs : List P} {M : Mem} : isiO isiT [.p (.tup xs), .p (.ty "tuple")] M = some (.ok (.p (.bl true)), M) := by
  rw [isi_ty okP_tup hasB_tuple]; rfl
/-! ### numbers -/
def isInt : P → Bool
  | .int i => decide (-1000000000000000000000000000000000000000000000000000000000000 < i) && decide (i < 1000000000000000000000000000000000000000000000000000000000000)
  | _ => false
theorem ev_is_integer {v : P} (h : okP v = true) {M : Mem} : m_is_integer [.p v] M = some (.ok (.p (.bl (isInt v))), M) := by
  unfold m_is_integer b_is_integer
  rw [fnM1]
  simp [isi_ty h hasB_int, isi_ty h hasB_bool]
  cases v <;> simp [isTy, tyP, isInt]
  rename_i i
  by_cases h1 : (-1000000000000000000000000000000000000000000000000000000000000 : Int) < i
  · simp [h1]
  · simp [h1]
def isBt (v : P) (lo hi : Int) : Bool := isInt v && (match v with
  | .int i => decide (lo ≤ i) && decide (i ≤ hi)
  | _ => false)
theorem ev_is_between {v : P} (h : okP v = true) {lo hi : Int} {M : Mem} : m_is_between [.p v, .p (.int lo), .p (.int hi)] M = some (.ok (.p (.bl (isBt v lo hi))), M) := by
  unfold m_is_between b_is_between
  rw [fnM3]
  simp [ev_is_integer h]
  cases hi' : isInt v with
  | false => simp [isBt, hi']
  | true =>
    cases v <;> simp [isInt] at hi' <;> simp [isBt, isInt, hi']
    rename_i i
    by_cases h1 : lo ≤ i
    · simp [h1]
    · simp [h1]
theorem ev_is_index {v : P} (h : okP v = true) {n : Int} {M : Mem} : m_is_index [.p v, .p (.int n)] M = some (.ok (.p (.bl (isBt v 0 (n - 1)))), M) := by
  unfold m_is_index b_is_index
  rw [fnM2]
  simp [ev_is_between h]
theorem ev_is_mark {v : P} (h : okP v = true) {M : Mem} : m_is_mark [.p v] M = some (.ok (.p (.bl (isBt v 0 9999))), M) := by
  unfold m_is_mark b_is_mark
  rw [fnM1]
  simp [ev_is_between h]
theorem isBt_small {i lo hi : Int} (h0 : 0 ≤ lo) (h1 : hi ≤ 1000000) : isBt (.int i) lo hi = (decide (lo ≤ i) && decide (i ≤ hi)) := by
  unfold isBt isInt
  by_cases a : lo ≤ i <;> by_cases b : i ≤ hi
  · have x : (-1000000000000000000000000000000000000000000000000000000000000 : Int) < i := by omega
    have y : i < 1000000000000000000000000000000000000000000000000000000000000 := by omega
    simp [a, b, x, y]
  · simp [a, b]
  · simp [a, b]
  · simp [a, b]
def allIdx (ns : List Int) (n : Int) : Bool := ns.all fun i => isBt (.int i) 0 (n - 1)
theorem ev_are_indices {ns : List Int} {n : Int} (hl : ns.length ≤ sizeLine) {M : Mem} : m_are_indices [.p (.tup (ns.map .int)), .p (.int n)] M = some (.ok (.p (.bl (allIdx ns n))), M) := by
  unfold m_are_indices b_are_indices
  rw [fnM2]
  simp only [eCallB_ap, sRet_ap, eAnd_ap, aCons_ap, eVar_ap, List.replicate, getR_z, getR_s, bindR_ok, eC_ap, aNil_ap, isi_tup, truD_bl, if_true, eLc_ap, aSeq_ap, wipeR_cons, wipeR_nil, List.set, List.map_map]
  rw [lcGo_mapP (f := fun i => .bl (isBt (.int i) 0 (n - 1))) ns M fun i hi => ⟨_, rfl, by simp [ev_is_index]⟩]
  simp only [bindR_ok]
  rw [mkL_p (by simpa using hl)]
  have e : ns.map (fun i => P.bl (isBt (.int i) 0 (n - 1))) = (ns.map fun i => isBt (.int i) 0 (n - 1)).map .bl := by simp
  simp only [bindR_ok, liftn1, one_1, e, allF_l, finR_ret, List.all_map]
  rfl

theorem zipP_ints {xs ys : List Int} : zipP (xs.map .int) (ys.map .int) = (xs.zip ys).map fun p => .p (.tup [.int p.1, .int p.2]) := by
  unfold zipP
  rw [List.zip_map]
  simp
theorem cut1 {xs : List P} : cutP xs (some 1) none = xs.tail := by
  unfold cutP
  cases xs with
  | nil => simp
  | cons n r =>
    have h1 : HT.sIx (n :: r).length 0 (some 1) = 1 := by simp [HT.sIx]
    have h2 : HT.sIx (n :: r).length (n :: r).length none = (n :: r).length := rfl
    rw [h1, h2]
    simp
theorem tail_map {α β : Type} {f : α → β} {xs : List α} : (xs.map f).tail = xs.tail.map f := by cases xs <;> rfl
theorem ev_are_rising {ns : List Int} {n : Int} (hl : ns.length ≤ sizeLine) {M : Mem} : m_are_rising [.p (.tup (ns.map .int)), .p (.int n)] M = some (.ok (.p (.bl (allIdx ns n && rise ns))), M) := by
  unfold m_are_rising b_are_rising
  rw [fnM2]
  simp [ev_are_indices hl]
  cases ha : allIdx ns n with
  | false => simp
  | true =>
    simp [sliceD, cut1]
    rw [tail_map, zipP_ints]
    rw [lcGo_mapP (f := fun p : Int × Int => .bl (decide (p.1 < p.2))) (ns.zip ns.tail) M fun p hp => ⟨_, rfl, by simp⟩]
    simp only [bindR_ok]
    rw [mkL_p (by simp; omega)]
    have e : (ns.zip ns.tail).map (fun p : Int × Int => P.bl (decide (p.1 < p.2))) = ((ns.zip ns.tail).map fun p => decide (p.1 < p.2)).map .bl := by simp
    simp only [bindR_ok, liftn1, one_1, e, allF_l, finR_ret, List.all_map]
    rfl
theorem enumP_map {α : Type} {f : α → P} {xs : List α} : enumP (xs.map f) = xs.zipIdx.map fun x => .p (.tup [.int (x.2 : Nat), f x.1]) := by
  unfold enumP
  rw [List.zipIdx_map]
  simp
theorem mem_zipIdx {α : Type} {xs : List α} {p : α × Nat} (h : p ∈ xs.zipIdx) : xs[p.2]? = some p.1 := by
  rw [List.mem_zipIdx_iff_getElem?] at h
  exact h
theorem all_idx {r : List Int} {n : Nat} (hn : n ≤ 5) (h : ∀ i ∈ r, 0 ≤ i ∧ i < n) : allIdx r n = true := by
  unfold allIdx
  rw [List.all_eq_true]
  intro i hi
  have := h i hi
  rw [isBt_small (by omega) (by omega)]
  simp
  omega
theorem sz5 {n : Nat} (h : n ≤ 5) : n ≤ sizeLine := by rw [sizeLine_eq]; omega
theorem ev_are_heard {hs : List (List Int)} (h : HOk hs) {M : Mem} : m_are_heard [.p (rowsP hs)] M = some (.ok (.p (.bl true)), M) := by
  unfold m_are_heard b_are_heard
  rw [fnM1]
  have h1 : (1 : Int) ≤ hs.length := by have := h.pos; omega
  have h5 : (hs.length : Int) ≤ 5 := by have := h.most; omega
  simp [rowsP, h1, h5, enumP_map]
  rw [lcGo_mapP (f := fun _ => .bl true) hs.zipIdx M fun x hx => ⟨_, rfl, by
    have hr := mem_zipIdx hx
    have hm := List.mem_of_getElem? hr
    simp [ev_are_rising (sz5 (h.short _ hm)), all_idx h.most (h.rng _ hm), h.ris _ hm, h.own _ _ hr]⟩]
  simp only [bindR_ok]
  rw [mkL_p (by simp; exact sz5 h.most)]
  have e : hs.zipIdx.map (fun _ => P.bl true) = (hs.zipIdx.map fun _ => true).map .bl := by simp
  simp only [bindR_ok, liftn1, one_1, e, allF_l, finR_ret, List.all_map]
  simp
theorem ev_are_marks {ms : List Int} {n : Nat} (h : MOk n ms) (hn : n ≤ 5) {M : Mem} : m_are_marks [.p (marksP ms), .p (.int n)] M = some (.ok (.p (.bl true)), M) := by
  unfold m_are_marks b_are_marks
  rw [fnM2]
  simp [marksP, h.len]
  rw [lcGo_mapP (f := fun _ => .bl true) ms M fun m hm => ⟨_, rfl, by
    have := h.rng m hm
    simp [ev_is_mark]
    rw [isBt_small (by omega) (by omega)]
    simp [this]⟩]
  simp only [bindR_ok]
  rw [mkL_p (by simp [h.len]; exact sz5 hn)]
  have e : ms.map (fun _ => P.bl true) = (ms.map fun _ => true).map .bl := by simp
  simp only [bindR_ok, liftn1, one_1, e, allF_l, finR_ret, List.all_map]
  simp
theorem ev_with_itself {hs : List (List Int)} (h : HOk hs) {M : Mem} : m_with_itself [.p (rowsP hs)] M = some (.ok (.p (rowsP (withOwn hs))), M) := by
  unfold m_with_itself b_with_itself
  rw [fnM1]
  simp [rowsP, enumP_map]
  rw [lcGo_mapP (f := fun x : List Int × Nat => .tup ((sortI (x.1 ++ [((x.2 : Nat) : Int)])).map .int)) hs.zipIdx M fun x hx => ⟨_, rfl, by
    have hr := mem_zipIdx hx
    have hm := List.mem_of_getElem? hr
    have hl := h.short _ hm
    have e : (List.map (D.p ∘ P.int) x.1 ++ [D.p (P.int ((x.2 : Nat) : Int))]) = ((x.1 ++ [((x.2 : Nat) : Int)]).map P.int).map D.p := by simp
    simp [itemsD]
    rw [e, mkL_p (by simp; rw [sizeLine_eq]; omega)]
    simp only [bindR_ok, sortedA_l, tupleF_l]⟩]
  simp only [bindR_ok]
  rw [mkL_p (by simp; exact sz5 h.most)]
  simp [withOwn]
end DL

set_option maxHeartbeats 4000000
namespace DL
open PySem PySem.Spec PyProof.Rows L2
/-! ### which threads are reached -/
theorem nodup_bound : ∀ (n : Nat) (l : List Int), l.Nodup → (∀ x ∈ l, 0 ≤ x ∧ x < n) → l.length ≤ n
  | 0, l, _, h => by
    cases l with
    | nil => simp
    | cons x r => have := h x (by simp); omega
  | n + 1, l, hn, h => by
    by_cases hm : ((n : Nat) : Int) ∈ l
    · have h1 := nodup_bound n (l.erase ((n : Nat) : Int)) (hn.erase _) fun x hx => by
        have hx' := (hn.mem_erase_iff).mp hx
        have := h x hx'.2
        have := hx'.1
        omega
      rw [List.length_erase_of_mem hm] at h1
      omega
    · have h1 := nodup_bound n l hn fun x hx => by
        have := h x hx
        have : x ≠ ((n : Nat) : Int) := fun e => hm (e ▸ hx)
        omega
      omega
theorem perm_same {l m : List Int} (hl : l.Nodup) (hm : m.Nodup) (h : ∀ x, x ∈ l ↔ x ∈ m) : l.Perm m := by
  rw [List.perm_iff_count]
  intro a
  rw [hl.count, hm.count]
  simp [h a]
theorem sort_same {l m : List Int} (hl : l.Nodup) (hm : m.Nodup) (h : ∀ x, x ∈ l ↔ x ∈ m) : sortI l = sortI m :=
  sort_one ((sortI_perm l).trans (perm_same hl hm h)) (sortI_sorted l)
inductive Rch (hs : List (List Int)) (t : Int) : Int → Prop where
  | base : Rch hs t t
  | step {y : Int} {x : Nat} (h : Rch hs t y) (hx : x < hs.length) (hy : y ∈ hs.getD x []) : Rch hs t ((x : Nat) : Int)
structure Fd (hs : List (List Int)) (t : Int) (f : List Int) : Prop where
  nd : f.Nodup
  st : t ∈ f
  rc : ∀ x ∈ f, Rch hs t x ∧ 0 ≤ x ∧ x < hs.length
def Closed (hs : List (List Int)) (f : List Int) : Prop := ∀ y ∈ f, ∀ x, x < hs.length → y ∈ hs.getD x [] → ((x : Nat) : Int) ∈ f
theorem Fd.mem {hs : List (List Int)} {t : Int} {f : List Int} (h : Fd hs t f) (c : Closed hs f) {x : Int} : x ∈ f ↔ Rch hs t x := by
  refine ⟨fun hx => (h.rc x hx).1, fun hr => ?_⟩
  induction hr with
  | base => exact h.st
  | step h1 hx hy ih => exact c _ ih _ hx hy
theorem Fd.len {hs : List (List Int)} {t : Int} {f : List Int} (h : Fd hs t f) : f.length ≤ hs.length := nodup_bound _ f h.nd fun x hx => (h.rc x hx).2
theorem Fd.add {hs : List (List Int)} {t : Int} {f : List Int} (h : Fd hs t f) {x : Nat} {y : Int} (hx : x < hs.length) (hn : ((x : Nat) : Int) ∉ f) (hy : y ∈ f) (hr : y ∈ hs.getD x []) : Fd hs t (f ++ [((x : Nat) : Int)]) where
  nd := by
    rw [List.nodup_append]
    refine ⟨h.nd, by simp, fun a ha b hb => ?_⟩
    simp at hb
    subst hb
    exact fun e => hn (e ▸ ha)
  st := by simp [h.st]
  rc := fun z hz => by
    rcases List.mem_append.mp hz with hz | hz
    · exact h.rc z hz
    · simp at hz
      subst hz
      exact ⟨.step (h.rc y hy).1 hx hr, by omega, by omega⟩
theorem Fd.start {hs : List (List Int)} {t : Int} (h0 : 0 ≤ t) (h1 : t < hs.length) : Fd hs t [t] := ⟨by simp, by simp, fun x hx => by simp at hx; subst hx; exact ⟨.base, h0, h1⟩⟩
theorem hears_iff {r f : List Int} : hearsAny r f = true ↔ ∃ y ∈ f, y ∈ r := by
  unfold hearsAny
  rw [List.any_eq_true]
  constructor
  · rintro ⟨y, hy, e⟩
    exact ⟨y, of_decide_eq_true e, hy⟩
  · rintro ⟨y, h1, h2⟩
    exact ⟨y, h2, decide_eq_true h1⟩
theorem led_step {hs : List (List Int)} {t : Int} {f : List Int} (h : Fd hs t f) {o : Nat} (ho : o < hs.length) : Fd hs t (ledStep hs f o) ∧ (∃ e, ledStep hs f o = f ++ e) := by
  unfold ledStep
  split
  · exact ⟨h, [], by simp⟩
  · rename_i hn
    split
    · rename_i hh
      obtain ⟨y, h1, h2⟩ := hears_iff.mp hh
      exact ⟨h.add ho hn h1 h2, _, rfl⟩
    · exact ⟨h, [], by simp⟩
theorem led_fold {hs : List (List Int)} {t : Int} : ∀ {os : List Nat} {f : List Int}, Fd hs t f → (∀ o ∈ os, o < hs.length) → Fd hs t (os.foldl (ledStep hs) f) ∧ (∃ e, os.foldl (ledStep hs) f = f ++ e) ∧ (os.foldl (ledStep hs) f = f → ∀ o ∈ os, ledStep hs f o = f)
  | [], f, h, _ => ⟨h, ⟨[], by simp⟩, fun _ o ho => by simp at ho⟩
  | o :: os, f, h, ho => by
    obtain ⟨h1, e1, he1⟩ := led_step h (ho o (by simp))
    obtain ⟨a1, ⟨e2, a2⟩, a3⟩ := led_fold (os := os) h1 fun x hx => ho x (by simp [hx])
    refine ⟨a1, ⟨e1 ++ e2, by rw [List.foldl_cons, a2, he1, List.append_assoc]⟩, fun e => ?_⟩
    rw [List.foldl_cons] at e
    have hz : e1 = [] := by
      have q := a2
      rw [e, he1] at q
      have := congrArg List.length q
      rw [List.length_append, List.length_append] at this
      exact List.length_eq_zero_iff.mp (by omega)
    have hf : ledStep hs f o = f := by rw [he1, hz, List.append_nil]
    intro x hx
    rcases List.mem_cons.mp hx with rfl | hx
    · exact hf
    · rw [hf] at e a3
      exact a3 e x hx
theorem closed_of_round {hs : List (List Int)} {t : Int} {f : List Int} (h : Fd hs t f) (e : ledRound hs f = f) : Closed hs f := by
  intro y hy x hx hr
  have q := (led_fold (os := List.range hs.length) h fun o ho => List.mem_range.mp ho).2.2 e x (List.mem_range.mpr hx)
  unfold ledStep at q
  split at q
  · assumption
  · rename_i hn
    rw [if_pos (hears_iff.mpr ⟨y, hy, hr⟩)] at q
    have := congrArg List.length q
    simp at this
def itR (hs : List (List Int)) (t : Int) : Nat → List Int
  | 0 => [t]
  | k + 1 => ledRound hs (itR hs t k)
theorem foldl_const {α β : Type} {g : α → α} {a : α} : ∀ {xs : List β}, xs.foldl (fun f _ => g f) a = Nat.rec a (fun _ r => g r) xs.length := by
  intro xs
  induction xs generalizing a with
  | nil => rfl
  | cons x xs ih =>
    rw [List.foldl_cons, ih, List.length_cons]
    generalize xs.length = n
    show (Nat.rec (g a) (fun _ r => g r) n : α) = g (Nat.rec a (fun _ r => g r) n)
    induction n with
    | zero => rfl
    | succ n ih2 =>
      show g _ = g (g _)
      rw [ih2]
theorem ledF_it (hs : List (List Int)) (t : Int) : ledF hs t = itR hs t hs.length := by
  unfold ledF
  rw [foldl_const, List.length_range]
  generalize hs.length = n
  induction n with
  | zero => rfl
  | succ n ih =>
    show ledRound hs _ = ledRound hs _
    rw [ih]
theorem it_fd {hs : List (List Int)} {t : Int} (h0 : 0 ≤ t) (h1 : t < hs.length) : ∀ k, Fd hs t (itR hs t k)
  | 0 => Fd.start h0 h1
  | k + 1 => (led_fold (os := List.range hs.length) (it_fd h0 h1 k) fun o ho => List.mem_range.mp ho).1
theorem it_grow {hs : List (List Int)} {t : Int} (h0 : 0 ≤ t) (h1 : t < hs.length) : ∀ k, ledRound hs (itR hs t k) = itR hs t k ∨ k + 1 ≤ (itR hs t k).length
  | 0 => .inr (by simp [itR])
  | k + 1 => by
    rcases it_grow h0 h1 k with e | e
    · left
      show ledRound hs (ledRound hs (itR hs t k)) = ledRound hs (itR hs t k)
      rw [e, e]
    · obtain ⟨_, ⟨x, hx⟩, _⟩ := led_fold (os := List.range hs.length) (it_fd h0 h1 k) fun o ho => List.mem_range.mp ho
      by_cases hz : x = []
      · left
        have q : ledRound hs (itR hs t k) = itR hs t k := by
          show (List.range hs.length).foldl (ledStep hs) (itR hs t k) = _
          rw [hx, hz, List.append_nil]
        show ledRound hs (ledRound hs (itR hs t k)) = ledRound hs (itR hs t k)
        rw [q, q]
      · right
        have : 0 < x.length := List.length_pos_iff.mpr hz
        show k + 1 + 1 ≤ (ledRound hs (itR hs t k)).length
        unfold ledRound
        rw [hx, List.length_append]
        omega
theorem ledF_fd {hs : List (List Int)} {t : Int} (h0 : 0 ≤ t) (h1 : t < hs.length) : Fd hs t (ledF hs t) ∧ Closed hs (ledF hs t) := by
  rw [ledF_it]
  have h := it_fd h0 h1 hs.length
  refine ⟨h, ?_⟩
  rcases it_grow h0 h1 hs.length with e | e
  · exact closed_of_round h e
  · have := h.len
    omega
/-- what is found and closed is what is led -/
theorem ledS_of {hs : List (List Int)} {t : Int} {f : List Int} (h0 : 0 ≤ t) (h1 : t < hs.length) (h : Fd hs t f) (c : Closed hs f) : sortI f = ledS hs t := by
  obtain ⟨a, b⟩ := ledF_fd h0 h1
  exact sort_same h.nd a.nd fun x => by rw [h.mem c, a.mem b]
/-! ### depth first -/
def dfsIn (here : Int) (st : List Int × List Int) (x : List Int × Nat) : List Int × List Int := if here ∈ x.1 ∧ ((x.2 : Nat) : Int) ∉ st.1 then (st.1 ++ [((x.2 : Nat) : Int)], st.2 ++ [((x.2 : Nat) : Int)]) else st
def dfsRound (hs : List (List Int)) (here : Int) (F W : List Int) : List Int × List Int := hs.zipIdx.foldl (dfsIn here) (F, W)
structure Dfs (hs : List (List Int)) (t : Int) (F W : List Int) : Prop where
  fd : Fd hs t F
  sub : ∀ x ∈ W, x ∈ F
  cl : ∀ y ∈ F, y ∈ W ∨ ∀ x, x < hs.length → y ∈ hs.getD x [] → ((x : Nat) : Int) ∈ F
theorem getD_of {hs : List (List Int)} {p : List Int × Nat} (h : hs[p.2]? = some p.1) : hs.getD p.2 [] = p.1 := by simp [List.getD, h]
/-- a round over some rows -/
theorem dfs_fold {hs : List (List Int)} {t here : Int} : ∀ {ps : List (List Int × Nat)} {F W : List Int}, (∀ p ∈ ps, hs[p.2]? = some p.1) → Fd hs t F → here ∈ F → (∀ x ∈ W, x ∈ F) →
    (∀ y ∈ F, y ∈ W ∨ y = here ∨ ∀ x, x < hs.length → y ∈ hs.getD x [] → ((x : Nat) : Int) ∈ F) →
    ∀ {F' W' : List Int}, ps.foldl (dfsIn here) (F, W) = (F', W') → Fd hs t F' ∧ (∀ x ∈ F, x ∈ F') ∧ (∀ x ∈ W', x ∈ F') ∧ (∀ y ∈ F', y ∈ W' ∨ y = here ∨ ∀ x, x < hs.length → y ∈ hs.getD x [] → ((x : Nat) : Int) ∈ F') ∧ (∀ p ∈ ps, here ∈ p.1 → ((p.2 : Nat) : Int) ∈ F') ∧ F'.length + W.length = F.length + W'.length
  | [], F, W, _, h, hh, hs1, hc, F', W', e => by
    have e1 : F = F' := congrArg Prod.fst e
    have e2 : W = W' := congrArg Prod.snd e
    subst e1 e2
    exact ⟨h, fun _ z => z, hs1, hc, fun p hp => by simp at hp, rfl⟩
  | p :: ps, F, W, hp, h, hh, hs1, hc, F', W', e => by
    rw [List.foldl_cons] at e
    have hpp := hp p (by simp)
    have hlt : p.2 < hs.length := (List.getElem?_eq_some_iff.mp hpp).1
    by_cases q : here ∈ p.1 ∧ ((p.2 : Nat) : Int) ∉ F
    · have e0 : dfsIn here (F, W) p = (F ++ [((p.2 : Nat) : Int)], W ++ [((p.2 : Nat) : Int)]) := if_pos q
      rw [e0] at e
      have h2 := h.add hlt q.2 hh (by rw [getD_of hpp]; exact q.1)
      obtain ⟨a1, a2, a3, a4, a5, a6⟩ := dfs_fold (ps := ps) (fun z hz => hp z (by simp [hz])) h2 (by simp [hh]) (fun x hx => by
        rcases List.mem_append.mp hx with hx | hx
        · exact List.mem_append_left _ (hs1 x hx)
        · exact List.mem_append_right _ hx) (fun y hy => by
        rcases List.mem_append.mp hy with hy | hy
        · rcases hc y hy with z | z | z
          · exact .inl (List.mem_append_left _ z)
          · exact .inr (.inl z)
          · exact .inr (.inr fun x hx hr => List.mem_append_left _ (z x hx hr))
        · exact .inl (List.mem_append_right _ hy)) e
      refine ⟨a1, fun x hx => a2 x (List.mem_append_left _ hx), a3, a4, fun z hz hr => ?_, by simp at a6; omega⟩
      rcases List.mem_cons.mp hz with rfl | hz
      · exact a2 _ (by simp)
      · exact a5 z hz hr
    · have e0 : dfsIn here (F, W) p = (F, W) := if_neg q
      rw [e0] at e
      obtain ⟨a1, a2, a3, a4, a5, a6⟩ := dfs_fold (ps := ps) (fun z hz => hp z (by simp [hz])) h hh hs1 hc e
      refine ⟨a1, a2, a3, a4, fun z hz hr => ?_, a6⟩
      rcases List.mem_cons.mp hz with rfl | hz
      · by_cases hm : ((z.2 : Nat) : Int) ∈ F
        · exact a2 _ hm
        · exact absurd ⟨hr, hm⟩ q
      · exact a5 z hz hr
theorem zipIdx_get {hs : List (List Int)} : ∀ p ∈ hs.zipIdx, hs[p.2]? = some p.1 := fun p hp => by
  rw [List.mem_zipIdx_iff_getElem?] at hp
  exact hp
theorem dfs_round {hs : List (List Int)} {t here : Int} {F W F' W' : List Int} (h : Dfs hs t F (W ++ [here])) (e : dfsRound hs here F W = (F', W')) : Dfs hs t F' W' ∧ F'.length + W.length = F.length + W'.length := by
  obtain ⟨a1, a2, a3, a4, a5, a6⟩ := dfs_fold (t := t) zipIdx_get h.fd (h.sub here (by simp)) (fun x hx => h.sub x (by simp [hx])) (fun y hy => by
    rcases h.cl y hy with z | z
    · rcases List.mem_append.mp z with z | z
      · exact .inl z
      · simp at z
        exact .inr (.inl z)
    · exact .inr (.inr z)) e
  refine ⟨⟨a1, a3, fun y hy => ?_⟩, a6⟩
  rcases a4 y hy with z | z | z
  · exact .inl z
  · right
    subst z
    intro x hx hr
    have hg : hs[x]? = some hs[x] := List.getElem?_eq_getElem hx
    exact a5 (hs[x], x) (by rw [List.mem_zipIdx_iff_getElem?]; exact hg) (by simpa [List.getD, hg] using hr)
  · exact .inr z
theorem dfs_end {hs : List (List Int)} {t : Int} {F : List Int} (h : Dfs hs t F []) : Closed hs F := fun y hy x hx hr => by
  rcases h.cl y hy with z | z
  · simp at z
  · exact z x hx hr
end DL

set_option maxHeartbeats 4000000
namespace DL
open PySem PySem.Spec PyProof.Rows L2
/-! ### loops, memory -/
theorem forGo_rel {α σ : Type} {b : Bd} {body : MS} {i : α → D} {R : σ → Rho → Mem → Prop} {f : σ → α → σ} : ∀ (xs : List α), (∀ x ∈ xs, ∀ s ρ M, R s ρ M → ∃ ρ1 ρ' M', bindB b (i x) ρ = some ρ1 ∧ body ρ1 M = some (.ok (.nx ρ'), M') ∧ R (f s x) ρ' M') →
    ∀ s ρ M, R s ρ M → ∃ ρ' M', forGo b body (xs.map i) ρ M = some (.ok (.nx ρ'), M') ∧ R (xs.foldl f s) ρ' M'
  | [], _, s, ρ, M, r => ⟨ρ, M, rfl, r⟩
  | x :: xs, h, s, ρ, M, r => by
    obtain ⟨ρ1, ρ', M', h1, h2, h3⟩ := h x (by simp) s ρ M r
    obtain ⟨ρ2, M2, h4, h5⟩ := forGo_rel xs (fun y hy => h y (by simp [hy])) (f s x) ρ' M' h3
    refine ⟨ρ2, M2, ?_, h5⟩
    show forGo b body (i x :: xs.map i) ρ M = _
    unfold forGo
    rw [h1]
    simp only [h2, bindR_ok, h4]
section
variable {M0 r : Mem} {a b c : MO}
@[simp] theorem mget0 : (M0 ++ a :: r)[M0.length]? = some a := by simp
@[simp] theorem mget1 : (M0 ++ a :: b :: r)[M0.length + 1]? = some b := by
  rw [List.getElem?_append_right (by omega)]
  simp
@[simp] theorem mset0 : (M0 ++ a :: r).set M0.length c = M0 ++ c :: r := by simp
@[simp] theorem mset1 : (M0 ++ a :: b :: r).set (M0.length + 1) c = M0 ++ a :: c :: r := by
  rw [List.set_append_right _ _ (by omega)]
  simp
end
theorem hasK_inl {F : List Int} {o : Int} : hasK (F.map Sum.inl) (.inl o) = decide (o ∈ F) := by
  by_cases h : o ∈ F
  · rw [decide_eq_true h]
    exact hasK_iff.mpr (List.mem_map.mpr ⟨o, h, rfl⟩)
  · rw [decide_eq_false h]
    cases q : hasK (F.map Sum.inl) (.inl o) with
    | false => rfl
    | true =>
      obtain ⟨x, hx, e⟩ := List.mem_map.mp (hasK_iff.mp q)
      cases e
      exact absurd hx h
theorem keysPut_new {F : List Int} {o : Int} (h : o ∉ F) : keysPut (F.map Sum.inl) (.inl o) = (F ++ [o]).map Sum.inl := by
  unfold keysPut
  rw [hasK_inl, decide_eq_false h]
  simp
theorem valsPut_new {v : D} : ∀ {F : List Int} {ds : List D} {o : Int}, ds.length = F.length → o ∉ F → valsPut (F.map Sum.inl) ds (.inl o) v = ds ++ [v]
  | [], [], o, _, _ => rfl
  | [], _ :: _, _, e, _ => by simp at e
  | _ :: _, [], _, e, _ => by simp at e
  | x :: F, d :: ds, o, e, h => by
    simp only [List.map_cons, valsPut]
    rw [if_neg (fun z => h (by cases z; simp)), valsPut_new (by simpa using e) (fun z => h (by simp [z]))]
    rfl
theorem nodup_inl {F : List Int} (h : F.Nodup) : (F.map (Sum.inl : Int → Key)).Nodup := by
  rw [List.Nodup, List.pairwise_map]
  exact h.imp fun hne e => hne (by cases e; rfl)
theorem keysI_inl (F : List Int) : keysI (F.map Sum.inl) = some F := by
  induction F with
  | nil => rfl
  | cons x F ih => simp [keysI, ih]
/-! ### reached_from -/
def rM (M0 : Mem) (F W : List Int) : Mem := M0 ++ [.dic (F.map Sum.inl) (F.map fun _ => .p (.bl true)), .lst (W.map fun i => .p (.int i))]
def rR (hs : List (List Int)) (t : Int) (M0 : Mem) (h : Option D) (ρ : Rho) : Prop := ∃ a b, ρ = [some (.p (rowsP hs)), some (.p (.int t)), some (.own M0.length), some (.own (M0.length + 1)), h, a, b]
def rBody : MS := (sIf (tAndM (tCmp (look2 inP) (eVar 4) (eVar 6)) (tCmp ninDic (eVar 5) (eVar 2)))
    (sSeq (sPut (eVar 2) (eVar 5) (eC (.bl true)))
    (sExpr (eBm isL appD (eVar 3) (aCons (eVar 5) aNil))))
    sNop)
def rLoop : MS := sSeq (sAsg (.n 4) (eBm isL popD (eVar 3) aNil)) (sFor (aEnum (aCons (eVar 0) aNil)) (.t [5, 6]) rBody)
theorem r_body {hs : List (List Int)} {t here : Int} {M0 : Mem} {x : List Int × Nat} {F W : List Int} {ρ : Rho} (hn : F.Nodup) (hF : F.length ≤ 5) (hW : W.length ≤ 10) (r : rR hs t M0 (some (.p (.int here))) ρ) :
    ∃ ρ1 ρ' M', bindB (.t [5, 6]) (.p (.tup [.int (x.2 : Nat), .tup (x.1.map .int)])) ρ = some ρ1 ∧ rBody ρ1 (rM M0 F W) = some (.ok (.nx ρ'), M') ∧ rR hs t M0 (some (.p (.int here))) ρ' ∧ M' = rM M0 (dfsIn here (F, W) x).1 (dfsIn here (F, W) x).2 := by
  obtain ⟨a, b, rfl⟩ := r
  refine ⟨[some (.p (rowsP hs)), some (.p (.int t)), some (.own M0.length), some (.own (M0.length + 1)), some (.p (.int here)), some (.p (.int (x.2 : Nat))), some (.p (.tup (x.1.map .int)))], _, _, rfl, ?_, ⟨some (.p (.int (x.2 : Nat))), some (.p (.tup (x.1.map .int))), rfl⟩, rfl⟩
  unfold rBody
  by_cases h1 : here ∈ x.1
  · by_cases h2 : ((x.2 : Nat) : Int) ∈ F
    · have e : dfsIn here (F, W) x = (F, W) := if_neg fun z => z.2 h2
      simp [rM, h1, ninDic, keyD, keyP, hasK_inl, h2, e]
    · have e : dfsIn here (F, W) x = (F ++ [((x.2 : Nat) : Int)], W ++ [((x.2 : Nat) : Int)]) := if_pos ⟨h1, h2⟩
      have n1 := nodup_inl hn
      have n2 : F.length < sizeLine := by rw [sizeLine_eq]; omega
      have n3 : W.length < sizeLine := by rw [sizeLine_eq]; omega
      simp [rM, h1, ninDic, keyD, keyP, hasK_inl, h2, e, n1, n2, isL, appD, n3, keysPut_new h2, valsPut_new (ds := F.map fun _ => D.p (.bl true)) (by simp) h2]
  · have e : dfsIn here (F, W) x = (F, W) := if_neg fun z => h1 z.1
    simp [rM, h1, e]
theorem r_round {hs : List (List Int)} {t here : Int} {M0 : Mem} {h0 : Option D} {F W : List Int} {ρ : Rho} (hk : HOk hs) (d : Dfs hs t F (W ++ [here])) (hW : W.length ≤ 4) (r : rR hs t M0 h0 ρ) :
    ∃ ρ' F' W', rLoop ρ (rM M0 F (W ++ [here])) = some (.ok (.nx ρ'), rM M0 F' W') ∧ rR hs t M0 (some (.p (.int here))) ρ' ∧ dfsRound hs here F W = (F', W') := by
  obtain ⟨a, b, rfl⟩ := r
  have step := forGo_rel (b := .t [5, 6]) (body := rBody) (i := fun x : List Int × Nat => .p (.tup [.int (x.2 : Nat), .tup (x.1.map .int)])) (f := dfsIn here)
    (R := fun (s : List Int × List Int) ρ M => rR hs t M0 (some (.p (.int here))) ρ ∧ M = rM M0 s.1 s.2 ∧ Fd hs t s.1 ∧ here ∈ s.1 ∧ s.2.length + F.length = s.1.length + W.length) hs.zipIdx (fun x hx s ρ M ⟨r1, e1, f1, hh, hl⟩ => by
      subst e1
      obtain ⟨s1, s2⟩ := s
      simp only at r1 f1 hh hl
      have hl5 := f1.len
      have hm := hk.most
      obtain ⟨ρ1, ρ', M', b1, b2, b3, b4⟩ := r_body (x := x) (W := s2) f1.nd (by omega) (by omega) r1
      refine ⟨ρ1, ρ', M', b1, b2, b3, b4, ?_⟩
      have hg := zipIdx_get x hx
      by_cases q : here ∈ x.1 ∧ ((x.2 : Nat) : Int) ∉ s1
      · have e : dfsIn here (s1, s2) x = (s1 ++ [((x.2 : Nat) : Int)], s2 ++ [((x.2 : Nat) : Int)]) := if_pos q
        rw [e]
        exact ⟨f1.add (List.getElem?_eq_some_iff.mp hg).1 q.2 hh (by rw [getD_of hg]; exact q.1), by simp [hh], by simp; omega⟩
      · have e : dfsIn here (s1, s2) x = (s1, s2) := if_neg q
        rw [e]
        exact ⟨f1, hh, hl⟩) (F, W) [some (.p (rowsP hs)), some (.p (.int t)), some (.own M0.length), some (.own (M0.length + 1)), some (.p (.int here)), a, b] (rM M0 F W) ⟨⟨a, b, rfl⟩, rfl, d.fd, d.sub here (by simp), by simp; omega⟩
  obtain ⟨ρ', M', f1, f2, f3, _⟩ := step
  refine ⟨ρ', _, _, ?_, f2, rfl⟩
  unfold rLoop
  have e1 : (W ++ [here]).map (fun i => D.p (.int i)) = (W.map fun i => D.p (.int i)) ++ [.p (.int here)] := by simp
  have e2 : enumP (hs.map fun r => P.tup (r.map .int)) = hs.zipIdx.map fun x => .p (.tup [.int (x.2 : Nat), .tup (x.1.map .int)]) := enumP_map
  have e3 : eBm isL popD (eVar 3) aNil [some (D.p (rowsP hs)), some (D.p (.int t)), some (.own M0.length), some (.own (M0.length + 1)), h0, a, b] (rM M0 F (W ++ [here])) = some (.ok (.p (.int here)), rM M0 F W) := by
    simp [rM, isL, popD]
  simp only [sSeq_ap, sAsgN_ap, e3, bindR_ok, sFor_ap, aEnum_ap, aCons_ap, eVar_ap, getR_z, aNil_ap, List.set]
  show bindR (some (Res.ok (enumP (hs.map fun r => P.tup (r.map .int))), rM M0 F W)) _ = _
  rw [bindR_ok, e2, f1, f3]
theorem r_while {hs : List (List Int)} {t : Int} {M0 : Mem} (hk : HOk hs) : ∀ (fuel : Nat) (F W : List Int) (h0 : Option D) (ρ : Rho), Dfs hs t F W → W.length ≤ F.length → hs.length - F.length + W.length < fuel → rR hs t M0 h0 ρ →
    ∃ ρ' F' h1, sWhile fuel (tru (eVar 3)) rLoop ρ (rM M0 F W) = some (.ok (.nx ρ'), rM M0 F' []) ∧ Dfs hs t F' [] ∧ rR hs t M0 h1 ρ'
  | 0, F, W, _, _, _, _, h, _ => by omega
  | fuel + 1, F, W, h0, ρ, d, hWF, h, r => by
    have hF := d.fd.len
    have hm := hk.most
    cases hW : W.getLast? with
    | none =>
      have e : W = [] := List.getLast?_eq_none_iff.mp hW
      subst e
      obtain ⟨a, b, rfl⟩ := r
      refine ⟨_, F, h0, ?_, d, ⟨a, b, rfl⟩⟩
      unfold sWhile
      simp [rM, truD]
    | some here =>
      obtain ⟨W0, e⟩ := List.getLast?_eq_some_iff.mp hW
      subst e
      have hl : W0.length ≤ 4 := by simp at hWF; omega
      obtain ⟨ρ', F', W', e1, r1, e2⟩ := r_round hk d hl r
      obtain ⟨d1, hlen⟩ := dfs_round d e2
      have hF' := d1.fd.len
      have hsub : F.length ≤ F'.length := by
        have := (dfs_fold (t := t) zipIdx_get d.fd (d.sub here (by simp)) (fun x hx => d.sub x (by simp [hx])) (fun y hy => by
          rcases d.cl y hy with z | z
          · rcases List.mem_append.mp z with z | z
            · exact .inl z
            · simp at z
              exact .inr (.inl z)
          · exact .inr (.inr z)) e2).2.2.2.2.2
        have grow : ∀ (ps : List (List Int × Nat)) (s : List Int × List Int), s.1.length ≤ (ps.foldl (dfsIn here) s).1.length := by
          intro ps
          induction ps with
          | nil => intro s; exact Nat.le_refl _
          | cons p ps ih =>
            intro s
            refine Nat.le_trans ?_ (ih _)
            unfold dfsIn
            split
            · simp
            · exact Nat.le_refl _
        have g := grow hs.zipIdx (F, W0)
        have e3 : hs.zipIdx.foldl (dfsIn here) (F, W0) = (F', W') := e2
        rw [e3] at g
        exact g
      obtain ⟨ρ2, F2, h2, f1, f2, f3⟩ := r_while hk fuel F' W' _ ρ' d1 (by simp at hWF; omega) (by simp at h; omega) r1
      refine ⟨ρ2, F2, h2, ?_, f2, f3⟩
      obtain ⟨a, b, rfl⟩ := r
      unfold sWhile
      have e4 : tru (eVar 3) [some (D.p (rowsP hs)), some (D.p (.int t)), some (.own M0.length), some (.own (M0.length + 1)), h0, a, b] (rM M0 F (W0 ++ [here])) = some (.ok true, rM M0 F (W0 ++ [here])) := by
        simp [rM, truD]
      rw [e4]
      simp only [bindR_ok, if_true, e1]
      exact f1
theorem eq_reached_from : ∀ ps c, F_reached ps = some c → ∀ M, ∃ extra d0, m_reached_from (ps.map .p) M = some (.ok d0, M ++ extra) ∧ Frz M.length extra d0 c := by
  intro ps c h M
  unfold F_reached at h
  split at h
  · rename_i p t
    split at h
    · rename_i hs hp
      split at h
      · rename_i hc
        obtain ⟨hk, h0, h1⟩ := hc
        have := Option.some.inj h
        subst this
        have := heardOf_eq hp
        subst this
        have d0 : Dfs hs t [t] [t] := ⟨Fd.start h0 h1, fun _ z => z, fun y hy => .inl hy⟩
        have hm := hk.most
        obtain ⟨ρ', F', h2, f1, f2, f3⟩ := r_while (M0 := M) hk 100 [t] [t] none [some (.p (rowsP hs)), some (.p (.int t)), some (.own M.length), some (.own (M.length + 1)), none, none, none] d0 (by simp) (by simp; omega) ⟨none, none, rfl⟩
        have hl := f2.fd.len
        refine ⟨[.dic (F'.map Sum.inl) (F'.map fun _ => .p (.bl true)), .lst []], .p (.lst ((ledS hs t).map .int)), ?_, .inl rfl⟩
        unfold m_reached_from
        simp only [List.map_cons, List.map_nil]
        rw [fnM2]
        unfold b_reached_from
        have e1 : sPar 2 3 (aCons (eDict [((eVar 1), (eC (.bl true)))]) (aCons (eDisp mkO (aCons (eVar 1) aNil)) aNil)) [some (D.p (rowsP hs)), some (D.p (.int t)), none, none, none, none, none] M =
            some (.ok (.nx [some (.p (rowsP hs)), some (.p (.int t)), some (.own M.length), some (.own (M.length + 1)), none, none, none]), rM M [t] [t]) := by
          simp [pPairs, dicEnd, keysOf, keyD, keyP, mkO, rM, sizeLine_eq]
        simp only [List.replicate, sSeq_ap, e1, bindR_ok]
        have f1' := f1
        unfold rLoop rBody at f1'
        rw [f1']
        obtain ⟨a, b, rfl⟩ := f3
        simp only [bindR_ok, sRet_ap, eCallB_ap, aCons_ap, eVar_ap, getR_z, getR_s, aNil_ap]
        have e5 : sortedA [.own M.length] (rM M F' []) = some (.ok (.p (.lst ((ledS hs t).map .int))), rM M F' []) := by
          have h64 : F'.length < 64 := by omega
          refine sortedA_of ?_
          simp [sortedF, intsOf, rM, keysI_inl, h64]
          rw [ledS_of h0 h1 f2.fd (dfs_end f2)]
        rw [e5]
        rfl
      · cases h
    · cases h
  · cases h
end DL

set_option maxHeartbeats 4000000
namespace DL
open PySem PySem.Spec PyProof.Rows L2
theorem rng_map (n : Nat) : rngD 0 (n : Int) = (List.range n).map fun i => .p (.int ((i : Nat) : Int)) := by
  unfold rngD
  have : ((n : Int) - 0).toNat = n := by omega
  rw [this]
  simp
theorem lc2Go_map {α : Type} {b : Bd} {it1 : MA} {b1 : Bd} {e : ME} {vs1 : List Nat} {ρ : Rho} {i : α → D} {g : α → List P} {M : Mem} : ∀ (xs : List α), (∀ x ∈ xs, ∃ ρ1 ds, bindB b (i x) ρ = some ρ1 ∧ it1 ρ1 M = some (.ok ds, M) ∧ lcGo b1 tYesM e (wipeR ρ1 vs1) ds M = some (.ok ((g x).map .p), M)) →
    lc2Go b tYesM it1 b1 tYesM e vs1 ρ (xs.map i) M = some (.ok ((xs.flatMap g).map .p), M)
  | [], _ => rfl
  | x :: xs, h => by
    obtain ⟨ρ1, ds, h1, h2, h3⟩ := h x (by simp)
    have ih := lc2Go_map xs fun y hy => h y (by simp [hy])
    show lc2Go b tYesM it1 b1 tYesM e vs1 ρ (i x :: xs.map i) M = _
    unfold lc2Go
    rw [h1]
    simp only [tYesM_ap, noX_ok, bindR_ok, if_true, h2, h3, ih]
    simp
theorem noX_liftn {o : Option P} {M : Mem} : noX (match o with
    | some c => some (.ok (.p c), M)
    | none => none) = match o with
    | some c => some (.ok (.p c), M)
    | none => (none : Out D) := by cases o <;> rfl
theorem aRng_at {a : MA} {ρ : Rho} {M M' : Mem} {n : Nat} (h : a ρ M = some (.ok [.p (.int (n : Nat))], M')) (hn : n ≤ 1000000) : aRng1 a ρ M = some (.ok ((List.range n).map fun i => .p (.int ((i : Nat) : Int))), M') := by
  rw [aRng1_ap, h, bindR_ok]
  simp only
  rw [if_pos (by omega), rng_map]
theorem eLc_map {α : Type} {it : MA} {b : Bd} {e : ME} {vs : List Nat} {ρ : Rho} {M M1 : Mem} {i : α → D} {f : α → P} (xs : List α) (h0 : it ρ M = some (.ok (xs.map i), M1)) (hl : xs.length ≤ sizeLine) (h : ∀ x ∈ xs, ∃ ρ1, bindB b (i x) (wipeR ρ vs) = some ρ1 ∧ e ρ1 M1 = some (.ok (.p (f x)), M1)) :
    eLc mkL it b tYesM e vs ρ M = some (.ok (.p (.lst (xs.map f))), M1) := by
  rw [eLc_ap, h0, bindR_ok, lcGo_mapP xs M1 h, bindR_ok, mkL_p (by simpa using hl)]
theorem eLc_fil {α : Type} {it : MA} {b : Bd} {t : MT} {e : ME} {vs : List Nat} {ρ : Rho} {M M1 : Mem} {i : α → D} {c : α → Bool} {f : α → P} (xs : List α) (h0 : it ρ M = some (.ok (xs.map i), M1)) (hl : xs.length ≤ sizeLine) (h : ∀ x ∈ xs, ∃ ρ1, bindB b (i x) (wipeR ρ vs) = some ρ1 ∧ t ρ1 M1 = some (.ok (c x), M1) ∧ (c x = true → e ρ1 M1 = some (.ok (.p (f x)), M1))) :
    eLc mkL it b t e vs ρ M = some (.ok (.p (.lst ((xs.filter c).map f))), M1) := by
  rw [eLc_ap, h0, bindR_ok, lcGo_filP xs M1 h, bindR_ok, mkL_p (by simpa using Nat.le_trans (List.length_filter_le _ _) hl)]
theorem ev_roots_of {hs : List (List Int)} (h : HOk hs) {M : Mem} : m_roots_of [.p (rowsP hs)] M = some (.ok (.p (.tup ((rootsL hs).map .int))), M) := by
  unfold m_roots_of b_roots_of
  rw [fnM1]
  have hm := h.most
  have e4 : rootsL hs = ((List.range hs.length).filter fun i : Nat => decide ((ledS hs ((i : Nat) : Int)).length = hs.length)).map fun i => ((i : Nat) : Int) := by
    unfold rootsL
    rw [List.filter_map]
    rfl
  have key : eLc mkL (aRng1 (aCons (eCallB lenO (aCons (eVar 0) aNil)) aNil)) (.n 1) (tCmp (look2 eqP) (eCallB lenO (aCons (eCall (liftn F_reached) (aCons (eVar 0) (aCons (eVar 1) aNil))) aNil)) (eCallB lenO (aCons (eVar 0) aNil))) (eVar 1) [1] [some (D.p (rowsP hs)), none] M = some (.ok (.p (.lst ((rootsL hs).map .int))), M) := by
    have ht : ∀ i ∈ List.range hs.length, tCmp (look2 eqP) (eCallB lenO (aCons (eCall (liftn F_reached) (aCons (eVar 0) (aCons (eVar 1) aNil))) aNil)) (eCallB lenO (aCons (eVar 0) aNil)) [some (.p (rowsP hs)), some (.p (.int ((i : Nat) : Int)))] M = some (.ok (decide ((ledS hs ((i : Nat) : Int)).length = hs.length)), M) := fun i hi => by
      have hi := List.mem_range.mp hi
      have q := F_reached_eq h (t := ((i : Nat) : Int)) (by omega) (by omega)
      have e2 : eCallB lenO (aCons (eVar 0) aNil) [some (D.p (rowsP hs)), some (.p (.int ((i : Nat) : Int)))] M = some (.ok (.p (.int hs.length)), M) := by simp [rowsP]
      have e3 : eCallB lenO (aCons (eCall (liftn F_reached) (aCons (eVar 0) (aCons (eVar 1) aNil))) aNil) [some (D.p (rowsP hs)), some (.p (.int ((i : Nat) : Int)))] M = some (.ok (.p (.int (ledS hs ((i : Nat) : Int)).length)), M) := by simp [q]
      simp only [tCmp_ap, eOp_ap, e3, e2, bindR_ok, look2_pp, eqP_ii, bolD_bl]
      simp
      omega
    rw [eLc_fil (M1 := M) (c := fun i : Nat => decide ((ledS hs ((i : Nat) : Int)).length = hs.length)) (f := fun i : Nat => .int ((i : Nat) : Int)) (List.range hs.length) (aRng_at (n := hs.length) (M' := M) (by simp [rowsP]) (by omega)) (by simp; exact sz5 hm) fun i hi => ⟨[some (.p (rowsP hs)), some (.p (.int ((i : Nat) : Int)))], rfl, ht i hi, fun _ => by simp⟩, e4]
    simp
  simp only [List.replicate, sRet_ap, eCallB_ap, aCons_ap, key, aNil_ap, bindR_ok, tupleF_l, finR_ret]
theorem maxF_t {ms : List Int} (h : ms ≠ []) : maxF [.tup (ms.map .int)] = some (.int (maxL ms)) := by
  unfold maxF
  simp only [seqInts, ints_map]
  cases ms with
  | nil => exact absurd rfl h
  | cons n r => rfl
theorem rep0 (n : Nat) : repL n [P.int 0] = (List.replicate n 0).map .int := by
  unfold repL
  induction n with
  | zero => rfl
  | succ n ih => simp [List.replicate_succ, ih]
theorem lzip_sig {hs : List (List Int)} {ms : List Int} : lzipF [rowsP (withOwn hs), marksP ms] = some (.lst (sigsL hs ms)) := by
  simp [lzipF, seqP, rowsP, marksP, sigsL, List.zip_map]
theorem ev_pairs {hs : List (List Int)} (h : HOk hs) {ρ : Rho} {M : Mem} (h1 : getR ρ 1 = some (.p (rowsP hs))) (hl : ρ.length = 6) :
    eLc2 mkL (aEnum (aCons (eVar 1) aNil)) (.t [4, 5]) tYesM (aSeq (eVar 5)) (.n 3) tYesM (eDisp mkT (aCons (eVar 4) (aCons (eVar 3) aNil))) [4, 5, 3] [3] ρ M = some (.ok (.p (.lst ((pairsL hs).map fun p => .tup [.int p.1, .int p.2]))), M) := by
  match ρ, hl with
  | [a0, a1, a2, a3, a4, a5], _ =>
    have h1 : a1 = some (.p (rowsP hs)) := by simpa using h1
    subst h1
    simp only [eLc2_ap, aEnum_ap, aCons_ap, eVar_ap, getR_s, getR_z, aNil_ap, bindR_ok, wipeR_cons, wipeR_nil, List.set]
    show bindR (some (Res.ok (enumP (hs.map fun r => P.tup (r.map .int))), M)) _ = _
    rw [bindR_ok, enumP_map, lc2Go_map (g := fun x : List Int × Nat => x.1.map fun o => .tup [.int ((x.2 : Nat) : Int), .int o]) hs.zipIdx fun x hx => ⟨_, x.1.map (fun o => .p (.int o)), rfl, by simp, by
      rw [lcGo_mapP (f := fun o => .tup [.int ((x.2 : Nat) : Int), .int o]) x.1 M fun o ho => ⟨_, rfl, by
        have := mkT_p (ps := [.int ((x.2 : Nat) : Int), .int o]) (M := M) (by simp [sizeLine_eq])
        simpa using this⟩]⟩]
    simp only [bindR_ok]
    have e : (pairsL hs).map (fun p => P.tup [.int p.1, .int p.2]) = hs.zipIdx.flatMap fun x => x.1.map fun o => .tup [.int ((x.2 : Nat) : Int), .int o] := by
      unfold pairsL
      rw [List.map_flatMap]
      simp only [List.map_map]
      rfl
    rw [← e, mkL_p]
    rw [List.length_map]
    have : ∀ (ps : List (List Int × Nat)), (∀ p ∈ ps, p.1.length ≤ 5) → (ps.flatMap fun x => x.1.map fun o => (((x.2 : Nat) : Int), o)).length ≤ 5 * ps.length := by
      intro ps
      induction ps with
      | nil => intro _; simp
      | cons p ps ih =>
        intro hp
        have := ih fun q hq => hp q (by simp [hq])
        have := hp p (by simp)
        simp only [List.flatMap_cons, List.length_append, List.length_map, List.length_cons]
        omega
    have q := this hs.zipIdx fun p hp => h.short _ (List.mem_of_getElem? (mem_zipIdx hp))
    have hm := h.most
    rw [List.length_zipIdx] at q
    unfold pairsL
    rw [sizeLine_eq]
    omega
/-! ### __init__ -/
theorem sSlot_at {tab : Str → Option Nat} {mo mv : ME} {ρ : Rho} {M M1 : Mem} {y : D} {n i : Nat} {c : Str} {fs : List (Option D)} (hv : mv ρ M = some (.ok y, M1)) (ho : mo ρ M1 = some (.ok (.own n), M1)) (hm : M1[n]? = some (.ins c fs)) (ht : tab c = some i) : sSlot tab mo mv ρ M = some (.ok (.nx ρ), M1.set n (.ins c (putD i y fs))) := by
  simp [hv, ho, hm, ht]
theorem p0 {a : D} : putD 0 a [] = [some a] := rfl
theorem p6 {a b : D} : putD 6 b [some a] = [some a, none, none, none, none, none, some b] := rfl
theorem p7 {x0 x1 x2 x3 x4 x5 x6 : Option D} {i : Nat} {y : D} (h : i < 7) : putD i y [x0, x1, x2, x3, x4, x5, x6] = [x0, x1, x2, x3, x4, x5, x6].set i (some y) := by
  unfold putD
  have : i + 1 - [x0, x1, x2, x3, x4, x5, x6].length = 0 := by simp; omega
  rw [this, List.replicate_zero, List.append_nil]
theorem put_m {a0 a2 a6 : D} : putD 2 a2 (putD 6 a6 (putD 0 a0 [])) = [some a0, none, some a2, none, none, none, some a6] := by
  rw [p0, p6, p7 (by decide)]; rfl
theorem put_all {a0 a1 a2 a3 a4 a5 a6 : D} : putD 3 a3 (putD 4 a4 (putD 1 a1 (putD 5 a5 (putD 2 a2 (putD 6 a6 (putD 0 a0 [])))))) = [some a0, some a1, some a2, some a3, some a4, some a5, some a6] := by
  rw [put_m, p7 (by decide)]
  simp only [List.set]
  rw [p7 (by decide)]
  simp only [List.set]
  rw [p7 (by decide)]
  simp only [List.set]
  rw [p7 (by decide)]
  simp only [List.set]
theorem put_m1 {a0 a2 a6 : D} : (putD 2 a2 (putD 6 a6 (putD 0 a0 [])))[2]? = some (some a2) := by rw [put_m]; rfl
theorem put_m2 {a0 a2 a5 a6 : D} : (putD 5 a5 (putD 2 a2 (putD 6 a6 (putD 0 a0 []))))[2]? = some (some a2) := by rw [put_m, p7 (by decide)]; rfl
theorem max_pos {ms : List Int} {n : Nat} (h : MOk n ms) (hn : 1 ≤ n) : ms ≠ [] := fun e => by have := h.len; rw [e] at this; simp at this; omega
theorem mul0 {n : Nat} (h1 : 1 ≤ n) (h5 : n ≤ 5) : mulP (.tup [.int 0]) (.int n) = some (marksP (List.replicate n 0)) := by
  simp only [mulP]
  rw [if_pos ⟨by simp, by omega, by omega, by simp⟩]
  simp [rep0, marksP]
theorem ev_len1 {hs : List (List Int)} {ρ : Rho} {M : Mem} (g1 : getR ρ 1 = some (.p (rowsP hs))) : eCallB lenO (aCons (eVar 1) aNil) ρ M = some (.ok (.p (.int hs.length)), M) := by
  rw [eCallB_ap, aCons_ap, eVar_at g1]
  simp [rowsP]
theorem init_ok {hs : List (List Int)} {ms : List Int} {m : P} {ρ : Rho} {M : Mem} (h : HOk hs) (hm : MOk hs.length ms) (hq : m = marksP ms ∨ (m = .non ∧ ms = List.replicate hs.length 0)) (g1 : getR ρ 1 = some (.p (rowsP hs))) (g2 : getR ρ 2 = some (.p m)) :
    sIf (tOrM (tNotM (tru (eCall m_are_heard (aCons (eVar 1) aNil)))) (tAndM (tCmp notND (eVar 2) (eC .non)) (tNotM (tru (eCall m_are_marks (aCons (eVar 2) (aCons (eCallB lenO (aCons (eVar 1) aNil)) aNil)))))))
      sNever sNop ρ M = some (.ok (.nx ρ), M) := by
  have a1 : tNotM (tru (eCall m_are_heard (aCons (eVar 1) aNil))) ρ M = some (.ok false, M) := by
    simp only [tNotM_ap, tru_ap, eCall_ap, aCons_ap, eVar_at g1, bindR_ok, aNil_ap, ev_are_heard h, noX_ok, truD_bl, Bool.not_true]
  have a2 : tAndM (tCmp notND (eVar 2) (eC .non)) (tNotM (tru (eCall m_are_marks (aCons (eVar 2) (aCons (eCallB lenO (aCons (eVar 1) aNil)) aNil))))) ρ M = some (.ok false, M) := by
    rcases hq with rfl | ⟨rfl, _⟩
    · have e : notND (D.p (marksP ms)) (.p .non) M = some (.ok (.p (.bl true)), M) := rfl
      simp only [tAndM_ap, tCmp_ap, eOp_ap, eVar_at g2, eC_ap, bindR_ok, e, bolD_bl, if_true, tNotM_ap, tru_ap, eCall_ap, aCons_ap, ev_len1 g1, aNil_ap, ev_are_marks hm h.most, noX_ok, truD_bl, Bool.not_true]
    · have e : notND (D.p .non) (.p .non) M = some (.ok (.p (.bl false)), M) := rfl
      simp only [tAndM_ap, tCmp_ap, eOp_ap, eVar_at g2, eC_ap, bindR_ok, e, bolD_bl, Bool.false_eq_true, if_false]
  simp only [sIf_ap, tOrM_ap, a1, a2, bindR_ok, Bool.false_eq_true, if_false, sNop_ap]
theorem init_marks {hs : List (List Int)} {ms : List Int} {m : P} {ρ : Rho} {M : Mem} (h : HOk hs) (hq : m = marksP ms ∨ (m = .non ∧ ms = List.replicate hs.length 0)) (g1 : getR ρ 1 = some (.p (rowsP hs))) (g2 : getR ρ 2 = some (.p m)) :
    eIf (tCmp isND (eVar 2) (eC .non)) (eOp (lift2 mulP) (eDisp mkT (aCons (eC (.int (0))) aNil)) (eCallB lenO (aCons (eVar 1) aNil))) (eVar 2) ρ M = some (.ok (.p (marksP ms)), M) := by
  rcases hq with rfl | ⟨rfl, rfl⟩
  · have e : isND (D.p (marksP ms)) (.p .non) M = some (.ok (.p (.bl false)), M) := rfl
    simp only [eIf_ap, tCmp_ap, eOp_ap, eVar_at g2, eC_ap, bindR_ok, e, bolD_bl, Bool.false_eq_true, if_false]
  · have e : isND (D.p .non) (.p .non) M = some (.ok (.p (.bl true)), M) := rfl
    have e2 : mkT [.p (.int 0)] M = some (.ok (.p (.tup [.int 0])), M) := mkT_p (ps := [.int 0]) (by simp [sizeLine_eq])
    simp only [eIf_ap, tCmp_ap, eOp_ap, eVar_at g2, eC_ap, bindR_ok, e, bolD_bl, if_true, eDisp_ap, aCons_ap, aNil_ap, e2, ev_len1 g1, lift2_ap, mul0 h.pos h.most]
theorem ins_marks {M : Mem} {ρ : Rho} {fs : List (Option D)} {ms : List Int} (g0 : getR ρ 0 = some (.own M.length)) (hf : fs[2]? = some (some (D.p (marksP ms)))) : eUn (slotD (slT "own_marks")) (eVar 0) ρ (M ++ [MO.ins "Web" fs]) = some (.ok (.p (marksP ms)), M ++ [MO.ins "Web" fs]) := by
  rw [eUn_ap, eVar_at g0, bindR_ok]
  unfold slotD
  simp only [mget0, slT_Web_own_marks, hf]
theorem init_sig {hs : List (List Int)} {ms : List Int} {M : Mem} {ρ : Rho} {fs : List (Option D)} (h : HOk hs) (g0 : getR ρ 0 = some (.own M.length)) (g1 : getR ρ 1 = some (.p (rowsP hs))) (hf : fs[2]? = some (some (D.p (marksP ms)))) :
    eCallB tupleF (aCons (eCallB (liftn lzipF) (aCons (eCall m_with_itself (aCons (eVar 1) aNil)) (aCons (eUn (slotD (slT "own_marks")) (eVar 0)) aNil))) aNil) ρ (M ++ [MO.ins "Web" fs]) = some (.ok (.p (sigP hs ms)), M ++ [MO.ins "Web" fs]) := by
  simp only [eCallB_ap, aCons_ap, eCall_ap, eVar_at g1, bindR_ok, aNil_ap, ev_with_itself h, noX_ok, ins_marks g0 hf, liftn2, lzip_sig, tupleF_l]
  rfl
theorem init_max {ms : List Int} {M : Mem} {ρ : Rho} {fs : List (Option D)} (hne : ms ≠ []) (g0 : getR ρ 0 = some (.own M.length)) (hf : fs[2]? = some (some (D.p (marksP ms)))) :
    eOp (lift2 gtI) (eCallB (liftn maxF) (aCons (eUn (slotD (slT "own_marks")) (eVar 0)) aNil)) (eC (.int (0))) ρ (M ++ [MO.ins "Web" fs]) = some (.ok (.p (.bl (decide (0 < maxL ms)))), M ++ [MO.ins "Web" fs]) := by
  simp only [eOp_ap, eCallB_ap, aCons_ap, ins_marks g0 hf, bindR_ok, aNil_ap, liftn1, marksP, maxF_t hne, eC_ap, lift2_ap, intP2_ii]
theorem init_roots {hs : List (List Int)} {M : Mem} {ρ : Rho} (h : HOk hs) (g1 : getR ρ 1 = some (.p (rowsP hs))) : eCall m_roots_of (aCons (eVar 1) aNil) ρ M = some (.ok (.p (.tup ((rootsL hs).map .int))), M) := by
  exact eCall_at (a1_at (eVar_at g1)) (ev_roots_of h)
theorem init_pairs {hs : List (List Int)} {M : Mem} {ρ : Rho} (h : HOk hs) (g1 : getR ρ 1 = some (.p (rowsP hs))) (gl : ρ.length = 6) : eCallB tupleF (aCons (eLc2 mkL (aEnum (aCons (eVar 1) aNil)) (.t [4, 5]) tYesM (aSeq (eVar 5)) (.n 3) tYesM (eDisp mkT (aCons (eVar 4) (aCons (eVar 3) aNil))) [4, 5, 3] [3]) aNil) ρ M = some (.ok (.p (pairsP hs)), M) := by
  exact eCallB_at (a1_at (ev_pairs h g1 gl)) tupleF_l
theorem ev_init {hs : List (List Int)} {ms : List Int} {m : P} (h : HOk hs) (hm : MOk hs.length ms) (hq : m = marksP ms ∨ (m = .non ∧ ms = List.replicate hs.length 0)) (M : Mem) :
    m_Web___init__ [.own M.length, .p (rowsP hs), .p m] (M ++ [.ins "Web" []]) = some (.ok (.p .non), M ++ [.ins "Web" [some (.p (rowsP hs)), some (.p (.bl (decide (0 < maxL ms)))), some (.p (marksP ms)), some (.p (pairsP hs)), some (.p (.tup ((rootsL hs).map .int))), some (.p (sigP hs ms)), some (.p (.int hs.length))]]) := by
  unfold m_Web___init__ b_Web___init__
  rw [fnM3]
  have hne := max_pos hm h.pos
  generalize hρ : (some (D.own M.length) :: some (D.p (rowsP hs)) :: some (D.p m) :: List.replicate (6 - 3) none : Rho) = ρ
  have g0 : getR ρ 0 = some (.own M.length) := by subst hρ; simp
  have g1 : getR ρ 1 = some (.p (rowsP hs)) := by subst hρ; simp
  have g2 : getR ρ 2 = some (.p m) := by subst hρ; simp
  have gl : ρ.length = 6 := by subst hρ; simp
  refine fin_n (ρ' := ρ) (sSeq_at (init_ok h hm hq g1 g2) ?_)
  refine sSeq_at (sSlot_at (eVar_at g1) (eVar_at g0) mget0 slT_Web_own_heard) ?_
  rw [mset0]
  refine sSeq_at (sSlot_at (ev_len1 g1) (eVar_at g0) mget0 slT_Web_own_size) ?_
  rw [mset0]
  refine sSeq_at (sSlot_at (init_marks h hq g1 g2) (eVar_at g0) mget0 slT_Web_own_marks) ?_
  rw [mset0]
  refine sSeq_at (sSlot_at (init_sig h g0 g1 put_m1) (eVar_at g0) mget0 slT_Web_own_signals) ?_
  rw [mset0]
  refine sSeq_at (sSlot_at (init_max hne g0 put_m2) (eVar_at g0) mget0 slT_Web_own_is_marked) ?_
  rw [mset0]
  refine sSeq_at (sSlot_at (init_roots h g1) (eVar_at g0) mget0 slT_Web_own_roots) ?_
  rw [mset0, sSlot_at (init_pairs h g1 gl) (eVar_at g0) mget0 slT_Web_own_pairs, mset0, put_all]
theorem mkP_Web : InitP "Web" m_Web___init__ mk_Web := by
  intro ps q h
  unfold mk_Web at h
  split at h
  · rename_i a m
    split at h
    · rename_i hs ms h1 h2
      split at h
      · rename_i hc
        have := Option.some.inj h
        subst this
        have := heardOf_eq h1
        subst this
        have := rowOf_eq h2
        subst this
        exact ⟨_, rfl, by simp, fun M => ⟨[], ev_init hc.1 hc.2 (.inl rfl) M⟩⟩
      · cases h
    · cases h
  · cases h
theorem mk0 {n : Nat} : MOk n (List.replicate n 0) := ⟨by simp, fun m hm => by
  have := (List.mem_replicate.mp hm).2
  omega⟩
theorem mkP_Web1 : InitP "Web" (fun es M => m_Web___init__ (es ++ [.p .non]) M) mk_Web1 := by
  intro ps q h
  unfold mk_Web1 at h
  split at h
  · rename_i a
    split at h
    · rename_i hs h1
      split at h
      · rename_i hc
        have := Option.some.inj h
        subst this
        have := heardOf_eq h1
        subst this
        exact ⟨_, rfl, by simp, fun M => ⟨[], ev_init hc mk0 (.inr ⟨rfl, rfl⟩) M⟩⟩
      · cases h
    · cases h
  · cases h
end DL

set_option maxHeartbeats 4000000
namespace DL
open PySem PySem.Spec PyProof.Rows L2
local macro_rules | `(tactic| walk_at "ev") => `(tactic| try simp only [↓wp_var0, ↓wp_varS, ↓wp_C, ↓wp_Op, ↓wp_Un, ↓wp_aNil, ↓wp_aCons, ↓wp_And, ↓wp_Or, ↓wp_If, ↓wp_Disp, ↓wp_Call, ↓wp_CallB, ↓wp_tCmp, ↓wp_bolD, ↓wp_Chain, ↓wp_tChn, ↓wp_tru, ↓wp_tNot, ↓wp_tAnd, ↓wp_tOr, ↓wp_tYes, ↓wp_Lc, ↓wp_Meth, ↓wp_Prop, ↓wp_Bm, ↓wp_Slice, ↓wp_oNone, ↓wp_oSome, ↓intK_i, ↓wp_aSeq, ↓seqQ_l, ↓seqQ_t, ↓wp_aEnum, ↓enmK_t, ↓enmK_l, ↓wp_aZip, ↓zipK_t, ↓zipK_l, ↓wp_Seq, ↓seqK_nx, ↓seqK_ret, ↓seqK_brk, ↓seqK_ct, ↓wp_Nop, ↓wp_Break, ↓wp_Cont, ↓wp_Ret, ↓wp_RetN, ↓wp_Never, ↓wp_Expr, ↓wp_sIf, ↓wp_AsgN, ↓wp_Par, ↓parK_2, ↓wp_For, ↓wp_Sub, ↓finK_ret, ↓finK_nx, ↓wp_fn1, ↓wp_fn2, ↓wp_fn3, ↓wp_fn4, ↓wp_lift2, ↓wp_lift1, ↓wp_look2, ↓wp_liftn1, ↓wp_liftn2, ↓wp_liftn3, ↓wp_notD, ↓wp_len_t, ↓wp_len_l, ↓wp_tuple_l, ↓wp_tuple_t, ↓wp_list_l, ↓wp_list_t, ↓wp_isN, ↓wp_notN, ↓wp_T0, ↓wp_T1, ↓wp_T2, ↓wp_T3, ↓wp_T4, ↓wp_T5, ↓wp_L0, ↓wp_L1, ↓wp_L2, ↓wp_L3, ↓wp_L4, ↓wp_L5, ↓wp_newP, ↓wo_one, ↓wo_two, ↓wo_some, ↓wo_lt, ↓wo_le, ↓wo_gt, ↓wo_ge, ↓wo_sub, ↓wo_neg, ↓wo_addI, ↓wo_abs, ↓wo_int, ↓wo_intB, ↓wo_max2, ↓wo_min2, ↓wo_all, ↓wo_any, ↓wo_sum, ↓wo_eqI, ↓wo_neI, ↓truD_e, bodyK_nx, bodyK_ct, bodyK_ret, bodyK_brk, List.replicate, Nat.reduceSub, List.set, wipeR_nil, wipeR_cons, putL_nil, putL_cons])
local macro_rules | `(tactic| walk_at "evA") => `(tactic| try simp only [↓wp_var0, ↓wp_varS, ↓wp_C, ↓wp_Op, ↓wp_Un, ↓wp_aNil, ↓wp_aCons, ↓wp_And, ↓wp_Or, ↓wp_If, ↓wp_Disp, ↓wp_Call, ↓wp_CallB, ↓wp_tCmp, ↓wp_bolD, ↓wp_Chain, ↓wp_tChn, ↓wp_tru, ↓wp_tNot, ↓wp_tAnd, ↓wp_tOr, ↓wp_tYes, ↓wp_Lc, ↓wp_Meth, ↓wp_Prop, ↓wp_Bm, ↓wp_Slice, ↓wp_oNone, ↓wp_oSome, ↓intK_i, ↓wp_aSeq, ↓seqQ_l, ↓seqQ_t, ↓wp_aEnum, ↓enmK_t, ↓enmK_l, ↓wp_aZip, ↓zipK_t, ↓zipK_l, ↓wp_Seq, ↓seqK_nx, ↓seqK_ret, ↓seqK_brk, ↓seqK_ct, ↓wp_Nop, ↓wp_Break, ↓wp_Cont, ↓wp_Ret, ↓wp_RetN, ↓wp_Never, ↓wp_Expr, ↓wp_sIf, ↓wp_AsgN, ↓wp_Par, ↓parK_2, ↓wp_For, ↓wp_Sub, ↓finK_ret, ↓finK_nx, ↓wp_fn1, ↓wp_fn2, ↓wp_fn3, ↓wp_fn4, ↓wp_lift2, ↓wp_lift1, ↓wp_look2, ↓wp_liftn1, ↓wp_liftn2, ↓wp_liftn3, ↓wp_notD, ↓wp_len_t, ↓wp_len_l, ↓wp_tuple_l, ↓wp_tuple_t, ↓wp_list_l, ↓wp_list_t, ↓wp_isN, ↓wp_notN, ↓wp_T0, ↓wp_T1, ↓wp_T2, ↓wp_T3, ↓wp_T4, ↓wp_T5, ↓wp_L0, ↓wp_L1, ↓wp_L2, ↓wp_L3, ↓wp_L4, ↓wp_L5, ↓wp_newP, ↓wo_one, ↓wo_two, ↓wo_some, ↓wo_lt, ↓wo_le, ↓wo_gt, ↓wo_ge, ↓wo_sub, ↓wo_neg, ↓wo_addI, ↓wo_abs, ↓wo_int, ↓wo_intB, ↓wo_max2, ↓wo_min2, ↓wo_all, ↓wo_any, ↓wo_sum, ↓wo_eqI, ↓wo_neI, ↓truD_e, bodyK_nx, bodyK_ct, bodyK_ret, bodyK_brk, List.replicate, Nat.reduceSub, List.set, wipeR_nil, wipeR_cons, putL_nil, putL_cons, ↓wo_modA, ↓wo_divA, ↓wo_mulA, ↓wo_addSA, ↓wo_addTA, ↓wo_addLA, ↓wo_strI, ↓wo_strS, ↓wo_fmtI, ↓wo_fmtS, ↓jsK_s, ↓wp_js0, ↓wp_js1, ↓wp_Joined, ↓wp_joinL, ↓isS_str, ↓wp_mkOA])
local macro_rules | `(tactic| walk_at "evs") => `(tactic| try simp only [↓wp_var0, ↓wp_varS, ↓wp_C, ↓wp_Op, ↓wp_Un, ↓wp_aNil, ↓wp_aCons, ↓wp_And, ↓wp_Or, ↓wp_If, ↓wp_Disp, ↓wp_Call, ↓wp_CallB, ↓wp_tCmp, ↓wp_bolD, ↓wp_Chain, ↓wp_tChn, ↓wp_tru, ↓wp_tNot, ↓wp_tAnd, ↓wp_tOr, ↓wp_tYes, ↓wp_Lc, ↓wp_Meth, ↓wp_Prop, ↓wp_Bm, ↓wp_Slice, ↓wp_oNone, ↓wp_oSome, ↓intK_i, ↓wp_aSeq, ↓seqQ_l, ↓seqQ_t, ↓wp_aEnum, ↓enmK_t, ↓enmK_l, ↓wp_aZip, ↓zipK_t, ↓zipK_l, ↓seqK_ret, ↓seqK_brk, ↓seqK_ct, ↓wp_Nop, ↓wp_Break, ↓wp_Cont, ↓wp_Ret, ↓wp_RetN, ↓wp_Never, ↓wp_Expr, ↓wp_sIf, ↓wp_AsgN, ↓wp_Par, ↓parK_2, ↓wp_For, ↓wp_Sub, ↓finK_ret, ↓finK_nx, ↓wp_fn1, ↓wp_fn2, ↓wp_fn3, ↓wp_fn4, ↓wp_lift2, ↓wp_lift1, ↓wp_look2, ↓wp_liftn1, ↓wp_liftn2, ↓wp_liftn3, ↓wp_notD, ↓wp_len_t, ↓wp_len_l, ↓wp_tuple_l, ↓wp_tuple_t, ↓wp_list_l, ↓wp_list_t, ↓wp_isN, ↓wp_notN, ↓wp_T0, ↓wp_T1, ↓wp_T2, ↓wp_T3, ↓wp_T4, ↓wp_T5, ↓wp_L0, ↓wp_L1, ↓wp_L2, ↓wp_L3, ↓wp_L4, ↓wp_L5, ↓wp_newP, ↓wo_one, ↓wo_two, ↓wo_some, ↓wo_lt, ↓wo_le, ↓wo_gt, ↓wo_ge, ↓wo_sub, ↓wo_neg, ↓wo_addI, ↓wo_abs, ↓wo_int, ↓wo_intB, ↓wo_max2, ↓wo_min2, ↓wo_all, ↓wo_any, ↓wo_sum, ↓wo_eqI, ↓wo_neI, ↓truD_e, bodyK_nx, bodyK_ct, bodyK_ret, bodyK_brk, List.replicate, Nat.reduceSub, List.set, wipeR_nil, wipeR_cons, putL_nil, putL_cons])
local macro_rules | `(tactic| walk_at "evsA") => `(tactic| try simp only [↓wp_var0, ↓wp_varS, ↓wp_C, ↓wp_Op, ↓wp_Un, ↓wp_aNil, ↓wp_aCons, ↓wp_And, ↓wp_Or, ↓wp_If, ↓wp_Disp, ↓wp_Call, ↓wp_CallB, ↓wp_tCmp, ↓wp_bolD, ↓wp_Chain, ↓wp_tChn, ↓wp_tru, ↓wp_tNot, ↓wp_tAnd, ↓wp_tOr, ↓wp_tYes, ↓wp_Lc, ↓wp_Meth, ↓wp_Prop, ↓wp_Bm, ↓wp_Slice, ↓wp_oNone, ↓wp_oSome, ↓intK_i, ↓wp_aSeq, ↓seqQ_l, ↓seqQ_t, ↓wp_aEnum, ↓enmK_t, ↓enmK_l, ↓wp_aZip, ↓zipK_t, ↓zipK_l, ↓seqK_ret, ↓seqK_brk, ↓seqK_ct, ↓wp_Nop, ↓wp_Break, ↓wp_Cont, ↓wp_Ret, ↓wp_RetN, ↓wp_Never, ↓wp_Expr, ↓wp_sIf, ↓wp_AsgN, ↓wp_Par, ↓parK_2, ↓wp_For, ↓wp_Sub, ↓finK_ret, ↓finK_nx, ↓wp_fn1, ↓wp_fn2, ↓wp_fn3, ↓wp_fn4, ↓wp_lift2, ↓wp_lift1, ↓wp_look2, ↓wp_liftn1, ↓wp_liftn2, ↓wp_liftn3, ↓wp_notD, ↓wp_len_t, ↓wp_len_l, ↓wp_tuple_l, ↓wp_tuple_t, ↓wp_list_l, ↓wp_list_t, ↓wp_isN, ↓wp_notN, ↓wp_T0, ↓wp_T1, ↓wp_T2, ↓wp_T3, ↓wp_T4, ↓wp_T5, ↓wp_L0, ↓wp_L1, ↓wp_L2, ↓wp_L3, ↓wp_L4, ↓wp_L5, ↓wp_newP, ↓wo_one, ↓wo_two, ↓wo_some, ↓wo_lt, ↓wo_le, ↓wo_gt, ↓wo_ge, ↓wo_sub, ↓wo_neg, ↓wo_addI, ↓wo_abs, ↓wo_int, ↓wo_intB, ↓wo_max2, ↓wo_min2, ↓wo_all, ↓wo_any, ↓wo_sum, ↓wo_eqI, ↓wo_neI, ↓truD_e, bodyK_nx, bodyK_ct, bodyK_ret, bodyK_brk, List.replicate, Nat.reduceSub, List.set, wipeR_nil, wipeR_cons, putL_nil, putL_cons, ↓wo_modA, ↓wo_divA, ↓wo_mulA, ↓wo_addSA, ↓wo_addTA, ↓wo_addLA, ↓wo_strI, ↓wo_strS, ↓wo_fmtI, ↓wo_fmtS, ↓jsK_s, ↓wp_js0, ↓wp_js1, ↓wp_Joined, ↓wp_joinL, ↓isS_str, ↓wp_mkOA])
/-! ### the pouch -/
structure Pouch (n k : Nat) (M : Mem) (a b c : Int) : Prop where
  at_ : M[n]? = some (.lst [.p (.int a), .p (.int b), .p (.int c)])
  a0 : 0 ≤ a
  b0 : 0 ≤ b
  b1 : b < 10 ^ 30
  c0 : 0 ≤ c
  c1 : c ≤ k
def Pch (n k : Nat) (M : Mem) : Prop := ∃ a b c, Pouch n k M a b c
/-- nothing but the n-th thing has changed -/
structure Fr (n : Nat) (M M' : Mem) : Prop where
  len : M.length ≤ M'.length
  keep : ∀ j, j ≠ n → j < M.length → M'[j]? = M[j]?
theorem Fr.refl (n : Nat) (M : Mem) : Fr n M M := ⟨Nat.le_refl _, fun _ _ _ => rfl⟩
theorem Fr.trans {n : Nat} {M M1 M2 : Mem} (a : Fr n M M1) (b : Fr n M1 M2) : Fr n M M2 := ⟨Nat.le_trans a.len b.len, fun j h1 h2 => (b.keep j h1 (Nat.lt_of_lt_of_le h2 a.len)).trans (a.keep j h1 h2)⟩
theorem Pch.mono {n k k' : Nat} {M : Mem} (h : Pch n k M) (hk : k ≤ k') : Pch n k' M := by
  obtain ⟨a, b, c, q⟩ := h
  exact ⟨a, b, c, { q with c1 := by have := q.c1; omega }⟩
theorem Pch.lt {n k : Nat} {M : Mem} (h : Pch n k M) : n < M.length := by
  obtain ⟨a, b, c, q⟩ := h
  exact (List.getElem?_eq_some_iff.mp q.at_).1
theorem Pch.app {n k : Nat} {M X : Mem} (h : Pch n k M) : Pch n k (M ++ X) := by
  obtain ⟨a, b, c, q⟩ := h
  exact ⟨a, b, c, { q with at_ := by rw [List.getElem?_append_left (List.getElem?_eq_some_iff.mp q.at_).1]; exact q.at_ }⟩
theorem fr_set {n : Nat} {M : Mem} {o : MO} : Fr n M (M.set n o) := ⟨by simp, fun j h _ => by rw [List.getElem?_set_ne (Ne.symm h)]⟩
theorem fr_app {n : Nat} {M X : Mem} : Fr n M (M ++ X) := ⟨by simp, fun j _ h => List.getElem?_append_left h⟩
theorem wp_ixO {n : Nat} {M : Mem} {xs : List D} {i : Int} {d : D} {Q : D → Mem → Prop} (h : M[n]? = some (.lst xs)) (h2 : atI xs i = some d) : wp (ixD (.own n) (.p (.int i)) M) Q ↔ Q d M := wp_of (by unfold ixD itemsD; simp only [h, h2])
theorem log_lt {i : Int} {k : Nat} (h0 : 0 ≤ i) (h : i < 2 ^ k) (hk : 0 < k) : i.natAbs.log2 < k := by
  by_cases hz : i.natAbs = 0
  · rw [hz]; simpa using hk
  · rw [Nat.log2_lt hz]
    have e : (i.natAbs : Int) = i := by omega
    have : ((i.natAbs : Nat) : Int) < ((2 ^ k : Nat) : Int) := by rw [e]; push_cast; exact h
    omega
theorem log64 {i : Int} (h0 : 0 ≤ i) (h : i < 2 ^ 200) : i.natAbs.log2 < 200 := log_lt h0 h (by decide)
theorem w_coin {n k t : Nat} {M : Mem} {Q : D → Mem → Prop} (h : Pch n k M) (hk : k ≤ 1000000) (ht : 0 < t) (ht2 : t ≤ 1000000)
    (q : ∀ (v : Nat) M', v < t → Pch n (k + 1) M' → Fr n M M' → M'.length = M.length → Q (.p (.int v)) M') : wp (m__law_coin [.own n, .p (.int t)] M) Q := by
  obtain ⟨a, b, c, p⟩ := h
  have hn := (List.getElem?_eq_some_iff.mp p.at_).1
  have hc0 := p.c0
  have hc1 := p.c1
  have hb0 := p.b0
  have hb1 := p.b1
  have ha0 := p.a0
  have x0 : ∀ Q : D → Mem → Prop, wp (ixD (.own n) (.p (.int 0)) M) Q ↔ Q (.p (.int a)) M := fun Q => wp_ixO p.at_ rfl
  have x2 : ∀ Q : D → Mem → Prop, wp (ixD (.own n) (.p (.int 2)) M) Q ↔ Q (.p (.int c)) M := fun Q => wp_ixO p.at_ rfl
  unfold m__law_coin b__law_coin
  walk_at "ev"
  rw [x0]
  walk_at "ev"
  have fin : ∀ (x : Int) M', 0 ≤ x → x < t → Pch n (k + 1) M' → Fr n M M' → M'.length = M.length → Q (.p (.int x)) M' := fun x M' h0 h1 h2 h3 h4 => by
    obtain ⟨v, rfl⟩ := Int.eq_ofNat_of_zero_le h0
    exact q v M' (by omega) h2 h3 h4
  constructor
  · intro hpos
    rw [x0]
    walk_at "ev"
    rw [wo_mod (by omega), x0]
    walk_at "ev"
    rw [wo_div (by omega) (Nat.lt_trans (log_lt (k := 40) (by omega) (by omega) (by decide)) (by decide)), subK_at (j := 0) p.at_ rfl]
    walk_at "ev"
    refine fin _ _ (Int.emod_nonneg _ (by omega)) (Int.emod_lt_of_pos _ (by omega)) ⟨a / t, b, c, by simp [hn], Int.ediv_nonneg ha0 (by omega), hb0, hb1, hc0, by omega⟩ fr_set (by simp)
  · intro hneg
    rw [x2]
    walk_at "ev"
    rw [subK_at (j := 2) p.at_ rfl]
    walk_at "ev"
    have at' : (M.set n (.lst [.p (.int a), .p (.int b), .p (.int (c + 1))]))[n]? = some (.lst [.p (.int a), .p (.int b), .p (.int (c + 1))]) := by simp [hn]
    have y1 : ∀ Q : D → Mem → Prop, wp (ixD (.own n) (.p (.int 1)) (M.set n (.lst [.p (.int a), .p (.int b), .p (.int (c + 1))]))) Q ↔ Q (.p (.int b)) (M.set n (.lst [.p (.int a), .p (.int b), .p (.int (c + 1))])) := fun Q => wp_ixO at' rfl
    have y2 : ∀ Q : D → Mem → Prop, wp (ixD (.own n) (.p (.int 2)) (M.set n (.lst [.p (.int a), .p (.int b), .p (.int (c + 1))]))) Q ↔ Q (.p (.int (c + 1))) (M.set n (.lst [.p (.int a), .p (.int b), .p (.int (c + 1))])) := fun Q => wp_ixO at' rfl
    have lc : (c + 1).natAbs.log2 < 200 := log64 (by omega) (by omega)
    rw [y1, y2]
    walk_at "ev"
    rw [wo_mul (by have : (7541 : Int).natAbs.log2 = 12 := by decide +kernel
                   omega)]
    walk_at "ev"
    rw [wo_mod (by decide)]
    generalize hone : (b + 7541 * (c + 1)) % 4611686018427387847 = one
    have o0 : 0 ≤ one := by omega
    have o1 : one < 4611686018427387847 := by omega
    have lo : one.natAbs.log2 < 200 := log64 o0 (by omega)
    rw [wo_mul (by omega), y2]
    walk_at "ev"
    rw [wo_mul (by have : (97 : Int).natAbs.log2 = 6 := by decide +kernel
                   omega)]
    walk_at "ev"
    rw [wo_mod (by decide)]
    generalize htwo : (one * one + 97 * (c + 1)) % 4611686018427387733 = two
    have t0 : 0 ≤ two := by omega
    have t1 : two < 4611686018427387733 := by omega
    have lt : two.natAbs.log2 < 200 := log64 t0 (by omega)
    rw [wo_mul (by have : (2654435769 : Int).natAbs.log2 = 31 := by decide +kernel
                   omega)]
    walk_at "ev"
    rw [wo_div (by decide) (by decide +kernel)]
    walk_at "ev"
    rw [wo_mod (by omega)]
    refine fin _ _ (Int.emod_nonneg _ (by omega)) (Int.emod_lt_of_pos _ (by omega)) ⟨a, b, c + 1, at', ha0, hb0, hb1, by omega, by omega⟩ fr_set (by simp)
end DL

set_option maxHeartbeats 4000000
namespace DL
open PySem PySem.Spec PyProof.Rows L2
local macro_rules | `(tactic| walk_at "ev") => `(tactic| try simp only [↓wp_var0, ↓wp_varS, ↓wp_C, ↓wp_Op, ↓wp_Un, ↓wp_aNil, ↓wp_aCons, ↓wp_And, ↓wp_Or, ↓wp_If, ↓wp_Disp, ↓wp_Call, ↓wp_CallB, ↓wp_tCmp, ↓wp_bolD, ↓wp_Chain, ↓wp_tChn, ↓wp_tru, ↓wp_tNot, ↓wp_tAnd, ↓wp_tOr, ↓wp_tYes, ↓wp_Lc, ↓wp_Meth, ↓wp_Prop, ↓wp_Bm, ↓wp_Slice, ↓wp_oNone, ↓wp_oSome, ↓intK_i, ↓wp_aSeq, ↓seqQ_l, ↓seqQ_t, ↓wp_aEnum, ↓enmK_t, ↓enmK_l, ↓wp_aZip, ↓zipK_t, ↓zipK_l, ↓wp_Seq, ↓seqK_nx, ↓seqK_ret, ↓seqK_brk, ↓seqK_ct, ↓wp_Nop, ↓wp_Break, ↓wp_Cont, ↓wp_Ret, ↓wp_RetN, ↓wp_Never, ↓wp_Expr, ↓wp_sIf, ↓wp_AsgN, ↓wp_Par, ↓parK_2, ↓wp_For, ↓wp_Sub, ↓finK_ret, ↓finK_nx, ↓wp_fn1, ↓wp_fn2, ↓wp_fn3, ↓wp_fn4, ↓wp_lift2, ↓wp_lift1, ↓wp_look2, ↓wp_liftn1, ↓wp_liftn2, ↓wp_liftn3, ↓wp_notD, ↓wp_len_t, ↓wp_len_l, ↓wp_tuple_l, ↓wp_tuple_t, ↓wp_list_l, ↓wp_list_t, ↓wp_isN, ↓wp_notN, ↓wp_T0, ↓wp_T1, ↓wp_T2, ↓wp_T3, ↓wp_T4, ↓wp_T5, ↓wp_L0, ↓wp_L1, ↓wp_L2, ↓wp_L3, ↓wp_L4, ↓wp_L5, ↓wp_newP, ↓wo_one, ↓wo_two, ↓wo_some, ↓wo_lt, ↓wo_le, ↓wo_gt, ↓wo_ge, ↓wo_sub, ↓wo_neg, ↓wo_addI, ↓wo_abs, ↓wo_int, ↓wo_intB, ↓wo_max2, ↓wo_min2, ↓wo_all, ↓wo_any, ↓wo_sum, ↓wo_eqI, ↓wo_neI, ↓truD_e, bodyK_nx, bodyK_ct, bodyK_ret, bodyK_brk, List.replicate, Nat.reduceSub, List.set, wipeR_nil, wipeR_cons, putL_nil, putL_cons])
local macro_rules | `(tactic| walk_at "evA") => `(tactic| try simp only [↓wp_var0, ↓wp_varS, ↓wp_C, ↓wp_Op, ↓wp_Un, ↓wp_aNil, ↓wp_aCons, ↓wp_And, ↓wp_Or, ↓wp_If, ↓wp_Disp, ↓wp_Call, ↓wp_CallB, ↓wp_tCmp, ↓wp_bolD, ↓wp_Chain, ↓wp_tChn, ↓wp_tru, ↓wp_tNot, ↓wp_tAnd, ↓wp_tOr, ↓wp_tYes, ↓wp_Lc, ↓wp_Meth, ↓wp_Prop, ↓wp_Bm, ↓wp_Slice, ↓wp_oNone, ↓wp_oSome, ↓intK_i, ↓wp_aSeq, ↓seqQ_l, ↓seqQ_t, ↓wp_aEnum, ↓enmK_t, ↓enmK_l, ↓wp_aZip, ↓zipK_t, ↓zipK_l, ↓wp_Seq, ↓seqK_nx, ↓seqK_ret, ↓seqK_brk, ↓seqK_ct, ↓wp_Nop, ↓wp_Break, ↓wp_Cont, ↓wp_Ret, ↓wp_RetN, ↓wp_Never, ↓wp_Expr, ↓wp_sIf, ↓wp_AsgN, ↓wp_Par, ↓parK_2, ↓wp_For, ↓wp_Sub, ↓finK_ret, ↓finK_nx, ↓wp_fn1, ↓wp_fn2, ↓wp_fn3, ↓wp_fn4, ↓wp_lift2, ↓wp_lift1, ↓wp_look2, ↓wp_liftn1, ↓wp_liftn2, ↓wp_liftn3, ↓wp_notD, ↓wp_len_t, ↓wp_len_l, ↓wp_tuple_l, ↓wp_tuple_t, ↓wp_list_l, ↓wp_list_t, ↓wp_isN, ↓wp_notN, ↓wp_T0, ↓wp_T1, ↓wp_T2, ↓wp_T3, ↓wp_T4, ↓wp_T5, ↓wp_L0, ↓wp_L1, ↓wp_L2, ↓wp_L3, ↓wp_L4, ↓wp_L5, ↓wp_newP, ↓wo_one, ↓wo_two, ↓wo_some, ↓wo_lt, ↓wo_le, ↓wo_gt, ↓wo_ge, ↓wo_sub, ↓wo_neg, ↓wo_addI, ↓wo_abs, ↓wo_int, ↓wo_intB, ↓wo_max2, ↓wo_min2, ↓wo_all, ↓wo_any, ↓wo_sum, ↓wo_eqI, ↓wo_neI, ↓truD_e, bodyK_nx, bodyK_ct, bodyK_ret, bodyK_brk, List.replicate, Nat.reduceSub, List.set, wipeR_nil, wipeR_cons, putL_nil, putL_cons, ↓wo_modA, ↓wo_divA, ↓wo_mulA, ↓wo_addSA, ↓wo_addTA, ↓wo_addLA, ↓wo_strI, ↓wo_strS, ↓wo_fmtI, ↓wo_fmtS, ↓jsK_s, ↓wp_js0, ↓wp_js1, ↓wp_Joined, ↓wp_joinL, ↓isS_str, ↓wp_mkOA])
local macro_rules | `(tactic| walk_at "evs") => `(tactic| try simp only [↓wp_var0, ↓wp_varS, ↓wp_C, ↓wp_Op, ↓wp_Un, ↓wp_aNil, ↓wp_aCons, ↓wp_And, ↓wp_Or, ↓wp_If, ↓wp_Disp, ↓wp_Call, ↓wp_CallB, ↓wp_tCmp, ↓wp_bolD, ↓wp_Chain, ↓wp_tChn, ↓wp_tru, ↓wp_tNot, ↓wp_tAnd, ↓wp_tOr, ↓wp_tYes, ↓wp_Lc, ↓wp_Meth, ↓wp_Prop, ↓wp_Bm, ↓wp_Slice, ↓wp_oNone, ↓wp_oSome, ↓intK_i, ↓wp_aSeq, ↓seqQ_l, ↓seqQ_t, ↓wp_aEnum, ↓enmK_t, ↓enmK_l, ↓wp_aZip, ↓zipK_t, ↓zipK_l, ↓seqK_ret, ↓seqK_brk, ↓seqK_ct, ↓wp_Nop, ↓wp_Break, ↓wp_Cont, ↓wp_Ret, ↓wp_RetN, ↓wp_Never, ↓wp_Expr, ↓wp_sIf, ↓wp_AsgN, ↓wp_Par, ↓parK_2, ↓wp_For, ↓wp_Sub, ↓finK_ret, ↓finK_nx, ↓wp_fn1, ↓wp_fn2, ↓wp_fn3, ↓wp_fn4, ↓wp_lift2, ↓wp_lift1, ↓wp_look2, ↓wp_liftn1, ↓wp_liftn2, ↓wp_liftn3, ↓wp_notD, ↓wp_len_t, ↓wp_len_l, ↓wp_tuple_l, ↓wp_tuple_t, ↓wp_list_l, ↓wp_list_t, ↓wp_isN, ↓wp_notN, ↓wp_T0, ↓wp_T1, ↓wp_T2, ↓wp_T3, ↓wp_T4, ↓wp_T5, ↓wp_L0, ↓wp_L1, ↓wp_L2, ↓wp_L3, ↓wp_L4, ↓wp_L5, ↓wp_newP, ↓wo_one, ↓wo_two, ↓wo_some, ↓wo_lt, ↓wo_le, ↓wo_gt, ↓wo_ge, ↓wo_sub, ↓wo_neg, ↓wo_addI, ↓wo_abs, ↓wo_int, ↓wo_intB, ↓wo_max2, ↓wo_min2, ↓wo_all, ↓wo_any, ↓wo_sum, ↓wo_eqI, ↓wo_neI, ↓truD_e, bodyK_nx, bodyK_ct, bodyK_ret, bodyK_brk, List.replicate, Nat.reduceSub, List.set, wipeR_nil, wipeR_cons, putL_nil, putL_cons])
local macro_rules | `(tactic| walk_at "evsA") => `(tactic| try simp only [↓wp_var0, ↓wp_varS, ↓wp_C, ↓wp_Op, ↓wp_Un, ↓wp_aNil, ↓wp_aCons, ↓wp_And, ↓wp_Or, ↓wp_If, ↓wp_Disp, ↓wp_Call, ↓wp_CallB, ↓wp_tCmp, ↓wp_bolD, ↓wp_Chain, ↓wp_tChn, ↓wp_tru, ↓wp_tNot, ↓wp_tAnd, ↓wp_tOr, ↓wp_tYes, ↓wp_Lc, ↓wp_Meth, ↓wp_Prop, ↓wp_Bm, ↓wp_Slice, ↓wp_oNone, ↓wp_oSome, ↓intK_i, ↓wp_aSeq, ↓seqQ_l, ↓seqQ_t, ↓wp_aEnum, ↓enmK_t, ↓enmK_l, ↓wp_aZip, ↓zipK_t, ↓zipK_l, ↓seqK_ret, ↓seqK_brk, ↓seqK_ct, ↓wp_Nop, ↓wp_Break, ↓wp_Cont, ↓wp_Ret, ↓wp_RetN, ↓wp_Never, ↓wp_Expr, ↓wp_sIf, ↓wp_AsgN, ↓wp_Par, ↓parK_2, ↓wp_For, ↓wp_Sub, ↓finK_ret, ↓finK_nx, ↓wp_fn1, ↓wp_fn2, ↓wp_fn3, ↓wp_fn4, ↓wp_lift2, ↓wp_lift1, ↓wp_look2, ↓wp_liftn1, ↓wp_liftn2, ↓wp_liftn3, ↓wp_notD, ↓wp_len_t, ↓wp_len_l, ↓wp_tuple_l, ↓wp_tuple_t, ↓wp_list_l, ↓wp_list_t, ↓wp_isN, ↓wp_notN, ↓wp_T0, ↓wp_T1, ↓wp_T2, ↓wp_T3, ↓wp_T4, ↓wp_T5, ↓wp_L0, ↓wp_L1, ↓wp_L2, ↓wp_L3, ↓wp_L4, ↓wp_L5, ↓wp_newP, ↓wo_one, ↓wo_two, ↓wo_some, ↓wo_lt, ↓wo_le, ↓wo_gt, ↓wo_ge, ↓wo_sub, ↓wo_neg, ↓wo_addI, ↓wo_abs, ↓wo_int, ↓wo_intB, ↓wo_max2, ↓wo_min2, ↓wo_all, ↓wo_any, ↓wo_sum, ↓wo_eqI, ↓wo_neI, ↓truD_e, bodyK_nx, bodyK_ct, bodyK_ret, bodyK_brk, List.replicate, Nat.reduceSub, List.set, wipeR_nil, wipeR_cons, putL_nil, putL_cons, ↓wo_modA, ↓wo_divA, ↓wo_mulA, ↓wo_addSA, ↓wo_addTA, ↓wo_addLA, ↓wo_strI, ↓wo_strS, ↓wo_fmtI, ↓wo_fmtS, ↓jsK_s, ↓wp_js0, ↓wp_js1, ↓wp_Joined, ↓wp_joinL, ↓isS_str, ↓wp_mkOA])
theorem atI_nat {α : Type} {xs : List α} {v : Nat} {x : α} (h : xs[v]? = some x) : atI xs (v : Int) = some x := by
  have hl := (List.getElem?_eq_some_iff.mp h).1
  have : ixN xs.length (v : Int) = some v := by
    unfold ixN
    simp
    omega
  unfold atI
  rw [this]
  exact h
section
variable {M : Mem} {Q : D → Mem → Prop}
theorem wp_ixL {xs : List P} {v : Nat} {x : P} (h : xs[v]? = some x) : wp (ixD (.p (.lst xs)) (.p (.int (v : Nat))) M) Q ↔ Q (.p x) M := wp_of (by
  have : atI (xs.map D.p) (v : Int) = some (.p x) := atI_nat (by simp [h])
  unfold ixD itemsD
  simp only [this])
theorem wp_ixT {xs : List P} {v : Nat} {x : P} (h : xs[v]? = some x) : wp (ixD (.p (.tup xs)) (.p (.int (v : Nat))) M) Q ↔ Q (.p x) M := wp_of (by
  have : atI (xs.map D.p) (v : Int) = some (.p x) := atI_nat (by simp [h])
  unfold ixD itemsD
  simp only [this])
end
theorem w_any {n k : Nat} {M : Mem} {Q : D → Mem → Prop} {items : List P} (h : Pch n k M) (hk : k ≤ 1000000) (h0 : 0 < items.length) (hl : items.length ≤ 1000)
    (q : ∀ p ∈ items, ∀ M', Pch n (k + 1) M' → Fr n M M' → M'.length = M.length → Q (.p p) M') : wp (m__law_any [.own n, .p (.lst items)] M) Q := by
  unfold m__law_any b__law_any
  walk_at "ev"
  refine w_coin h hk h0 (by omega) fun v M' hv hp hf hm => ?_
  rw [wp_ixL (List.getElem?_eq_getElem hv)]
  walk_at "ev"
  exact q _ (List.getElem_mem hv) M' hp hf hm
theorem rise_pw {r : List Int} (h : r.Pairwise (· < ·)) : rise r = true := by
  induction r with
  | nil => rfl
  | cons a r ih =>
    cases r with
    | nil => rfl
    | cons b r =>
      have h1 := List.pairwise_cons.mp h
      have := ih h1.2
      unfold rise at this ⊢
      simp only [List.tail_cons, List.zip_cons_cons, List.all_cons]
      simp only [List.tail_cons] at this
      rw [this, decide_eq_true (h1.1 b (by simp))]
      rfl
theorem w_marks {n k s : Nat} {M : Mem} {Q : D → Mem → Prop} (h : Pch n k M) (hk : k ≤ 999000) (h0 : 1 ≤ s) (h5 : s ≤ 5)
    (q : ∀ ms M', MOk s ms → Pch n (k + 10) M' → Fr n M M' → M'.length = M.length → Q (.p (marksP ms)) M') : wp (m__law_marks [.own n, .p (.int s)] M) Q := by
  unfold m__law_marks b__law_marks
  walk_at "ev"
  refine w_coin (t := 3) h (by omega) (by omega) (by omega) fun v M1 hv hp hf hm => ?_
  walk_at "ev"
  constructor
  · intro hc
    have e : mulP (.tup [.int 0]) (.int s) = some (marksP (List.replicate s 0)) := by
      simp only [mulP]
      rw [if_pos ⟨by simp, by omega, by omega, by simp⟩]
      have : ∀ n, repL n [P.int 0] = (List.replicate n 0).map .int := fun n => by
        unfold repL
        induction n with
        | zero => rfl
        | succ n ih => simp [List.replicate_succ, ih]
      simp [this, marksP]
    rw [wo_of e]
    refine q _ M1 ⟨by simp, fun m hm => ?_⟩ (hp.mono (by omega)) hf hm
    have := (List.mem_replicate.mp hm).2
    omega
  · intro hc
    refine wp_aRng1 ?_
    walk_at "ev"
    refine ⟨rfl, (rngK1 (by omega)).mpr ?_⟩
    refine wp_lc (List.range s) (fun pre out M' => ∃ ms : List Int, out = ms.map .int ∧ ms.length = pre.length ∧ (∀ m ∈ ms, 0 ≤ m ∧ m ≤ 9999) ∧ Pch n (k + 1 + pre.length) M' ∧ Fr n M M' ∧ M'.length = M.length) ⟨[], rfl, rfl, by simp, hp.mono (by simp), hf, hm⟩ ?_ ?_
    · intro pre x post e out M2 ⟨ms, ho, hl, hr, hp2, hf2, hm2⟩
      have hlen : pre.length < s := by
        have := congrArg List.length e
        simp at this
        omega
      refine ⟨_, rfl, ?_⟩
      walk_at "ev"
      refine ⟨fun _ => ?_, by simp⟩
      refine w_any hp2 (by omega) (by simp) (by simp) fun p hpm M3 hp3 hf3 hm3 => ?_
      obtain ⟨m, rfl, hm0⟩ : ∃ m : Int, p = .int m ∧ (0 ≤ m ∧ m ≤ 9999) := by
        simp at hpm
        rcases hpm with rfl | rfl | rfl | rfl
        · exact ⟨0, rfl, by omega⟩
        · exact ⟨1, rfl, by omega⟩
        · exact ⟨7, rfl, by omega⟩
        · exact ⟨9999, rfl, by omega⟩
      refine ⟨_, rfl, ms ++ [m], by simp [ho], by simp [hl], fun y hy => ?_, hp3.mono (by simp; omega), hf2.trans hf3, by omega⟩
      rcases List.mem_append.mp hy with hy | hy
      · exact hr y hy
      · simp at hy
        subst hy
        exact hm0
    · intro out M2 ⟨ms, ho, hl, hr, hp2, hf2, hm2⟩
      subst ho
      simp at hl
      rw [wp_mkL (by rw [List.length_map, hl, sizeLine_eq]; omega)]
      walk_at "ev"
      exact q ms M2 ⟨hl, hr⟩ (hp2.mono (by simp; omega)) hf2 hm2
end DL

set_option maxHeartbeats 4000000
namespace DL
open PySem PySem.Spec PyProof.Rows L2
local macro_rules | `(tactic| walk_at "ev") => `(tactic| try simp only [↓wp_var0, ↓wp_varS, ↓wp_C, ↓wp_Op, ↓wp_Un, ↓wp_aNil, ↓wp_aCons, ↓wp_And, ↓wp_Or, ↓wp_If, ↓wp_Disp, ↓wp_Call, ↓wp_CallB, ↓wp_tCmp, ↓wp_bolD, ↓wp_Chain, ↓wp_tChn, ↓wp_tru, ↓wp_tNot, ↓wp_tAnd, ↓wp_tOr, ↓wp_tYes, ↓wp_Lc, ↓wp_Meth, ↓wp_Prop, ↓wp_Bm, ↓wp_Slice, ↓wp_oNone, ↓wp_oSome, ↓intK_i, ↓wp_aSeq, ↓seqQ_l, ↓seqQ_t, ↓wp_aEnum, ↓enmK_t, ↓enmK_l, ↓wp_aZip, ↓zipK_t, ↓zipK_l, ↓wp_Seq, ↓seqK_nx, ↓seqK_ret, ↓seqK_brk, ↓seqK_ct, ↓wp_Nop, ↓wp_Break, ↓wp_Cont, ↓wp_Ret, ↓wp_RetN, ↓wp_Never, ↓wp_Expr, ↓wp_sIf, ↓wp_AsgN, ↓wp_Par, ↓parK_2, ↓wp_For, ↓wp_Sub, ↓finK_ret, ↓finK_nx, ↓wp_fn1, ↓wp_fn2, ↓wp_fn3, ↓wp_fn4, ↓wp_lift2, ↓wp_lift1, ↓wp_look2, ↓wp_liftn1, ↓wp_liftn2, ↓wp_liftn3, ↓wp_notD, ↓wp_len_t, ↓wp_len_l, ↓wp_tuple_l, ↓wp_tuple_t, ↓wp_list_l, ↓wp_list_t, ↓wp_isN, ↓wp_notN, ↓wp_T0, ↓wp_T1, ↓wp_T2, ↓wp_T3, ↓wp_T4, ↓wp_T5, ↓wp_L0, ↓wp_L1, ↓wp_L2, ↓wp_L3, ↓wp_L4, ↓wp_L5, ↓wp_newP, ↓wo_one, ↓wo_two, ↓wo_some, ↓wo_lt, ↓wo_le, ↓wo_gt, ↓wo_ge, ↓wo_sub, ↓wo_neg, ↓wo_addI, ↓wo_abs, ↓wo_int, ↓wo_intB, ↓wo_max2, ↓wo_min2, ↓wo_all, ↓wo_any, ↓wo_sum, ↓wo_eqI, ↓wo_neI, ↓truD_e, bodyK_nx, bodyK_ct, bodyK_ret, bodyK_brk, List.replicate, Nat.reduceSub, List.set, wipeR_nil, wipeR_cons, putL_nil, putL_cons])
local macro_rules | `(tactic| walk_at "evA") => `(tactic| try simp only [↓wp_var0, ↓wp_varS, ↓wp_C, ↓wp_Op, ↓wp_Un, ↓wp_aNil, ↓wp_aCons, ↓wp_And, ↓wp_Or, ↓wp_If, ↓wp_Disp, ↓wp_Call, ↓wp_CallB, ↓wp_tCmp, ↓wp_bolD, ↓wp_Chain, ↓wp_tChn, ↓wp_tru, ↓wp_tNot, ↓wp_tAnd, ↓wp_tOr, ↓wp_tYes, ↓wp_Lc, ↓wp_Meth, ↓wp_Prop, ↓wp_Bm, ↓wp_Slice, ↓wp_oNone, ↓wp_oSome, ↓intK_i, ↓wp_aSeq, ↓seqQ_l, ↓seqQ_t, ↓wp_aEnum, ↓enmK_t, ↓enmK_l, ↓wp_aZip, ↓zipK_t, ↓zipK_l, ↓wp_Seq, ↓seqK_nx, ↓seqK_ret, ↓seqK_brk, ↓seqK_ct, ↓wp_Nop, ↓wp_Break, ↓wp_Cont, ↓wp_Ret, ↓wp_RetN, ↓wp_Never, ↓wp_Expr, ↓wp_sIf, ↓wp_AsgN, ↓wp_Par, ↓parK_2, ↓wp_For, ↓wp_Sub, ↓finK_ret, ↓finK_nx, ↓wp_fn1, ↓wp_fn2, ↓wp_fn3, ↓wp_fn4, ↓wp_lift2, ↓wp_lift1, ↓wp_look2, ↓wp_liftn1, ↓wp_liftn2, ↓wp_liftn3, ↓wp_notD, ↓wp_len_t, ↓wp_len_l, ↓wp_tuple_l, ↓wp_tuple_t, ↓wp_list_l, ↓wp_list_t, ↓wp_isN, ↓wp_notN, ↓wp_T0, ↓wp_T1, ↓wp_T2, ↓wp_T3, ↓wp_T4, ↓wp_T5, ↓wp_L0, ↓wp_L1, ↓wp_L2, ↓wp_L3, ↓wp_L4, ↓wp_L5, ↓wp_newP, ↓wo_one, ↓wo_two, ↓wo_some, ↓wo_lt, ↓wo_le, ↓wo_gt, ↓wo_ge, ↓wo_sub, ↓wo_neg, ↓wo_addI, ↓wo_abs, ↓wo_int, ↓wo_intB, ↓wo_max2, ↓wo_min2, ↓wo_all, ↓wo_any, ↓wo_sum, ↓wo_eqI, ↓wo_neI, ↓truD_e, bodyK_nx, bodyK_ct, bodyK_ret, bodyK_brk, List.replicate, Nat.reduceSub, List.set, wipeR_nil, wipeR_cons, putL_nil, putL_cons, ↓wo_modA, ↓wo_divA, ↓wo_mulA, ↓wo_addSA, ↓wo_addTA, ↓wo_addLA, ↓wo_strI, ↓wo_strS, ↓wo_fmtI, ↓wo_fmtS, ↓jsK_s, ↓wp_js0, ↓wp_js1, ↓wp_Joined, ↓wp_joinL, ↓isS_str, ↓wp_mkOA])
local macro_rules | `(tactic| walk_at "evs") => `(tactic| try simp only [↓wp_var0, ↓wp_varS, ↓wp_C, ↓wp_Op, ↓wp_Un, ↓wp_aNil, ↓wp_aCons, ↓wp_And, ↓wp_Or, ↓wp_If, ↓wp_Disp, ↓wp_Call, ↓wp_CallB, ↓wp_tCmp, ↓wp_bolD, ↓wp_Chain, ↓wp_tChn, ↓wp_tru, ↓wp_tNot, ↓wp_tAnd, ↓wp_tOr, ↓wp_tYes, ↓wp_Lc, ↓wp_Meth, ↓wp_Prop, ↓wp_Bm, ↓wp_Slice, ↓wp_oNone, ↓wp_oSome, ↓intK_i, ↓wp_aSeq, ↓seqQ_l, ↓seqQ_t, ↓wp_aEnum, ↓enmK_t, ↓enmK_l, ↓wp_aZip, ↓zipK_t, ↓zipK_l, ↓seqK_ret, ↓seqK_brk, ↓seqK_ct, ↓wp_Nop, ↓wp_Break, ↓wp_Cont, ↓wp_Ret, ↓wp_RetN, ↓wp_Never, ↓wp_Expr, ↓wp_sIf, ↓wp_AsgN, ↓wp_Par, ↓parK_2, ↓wp_For, ↓wp_Sub, ↓finK_ret, ↓finK_nx, ↓wp_fn1, ↓wp_fn2, ↓wp_fn3, ↓wp_fn4, ↓wp_lift2, ↓wp_lift1, ↓wp_look2, ↓wp_liftn1, ↓wp_liftn2, ↓wp_liftn3, ↓wp_notD, ↓wp_len_t, ↓wp_len_l, ↓wp_tuple_l, ↓wp_tuple_t, ↓wp_list_l, ↓wp_list_t, ↓wp_isN, ↓wp_notN, ↓wp_T0, ↓wp_T1, ↓wp_T2, ↓wp_T3, ↓wp_T4, ↓wp_T5, ↓wp_L0, ↓wp_L1, ↓wp_L2, ↓wp_L3, ↓wp_L4, ↓wp_L5, ↓wp_newP, ↓wo_one, ↓wo_two, ↓wo_some, ↓wo_lt, ↓wo_le, ↓wo_gt, ↓wo_ge, ↓wo_sub, ↓wo_neg, ↓wo_addI, ↓wo_abs, ↓wo_int, ↓wo_intB, ↓wo_max2, ↓wo_min2, ↓wo_all, ↓wo_any, ↓wo_sum, ↓wo_eqI, ↓wo_neI, ↓truD_e, bodyK_nx, bodyK_ct, bodyK_ret, bodyK_brk, List.replicate, Nat.reduceSub, List.set, wipeR_nil, wipeR_cons, putL_nil, putL_cons])
local macro_rules | `(tactic| walk_at "evsA") => `(tactic| try simp only [↓wp_var0, ↓wp_varS, ↓wp_C, ↓wp_Op, ↓wp_Un, ↓wp_aNil, ↓wp_aCons, ↓wp_And, ↓wp_Or, ↓wp_If, ↓wp_Disp, ↓wp_Call, ↓wp_CallB, ↓wp_tCmp, ↓wp_bolD, ↓wp_Chain, ↓wp_tChn, ↓wp_tru, ↓wp_tNot, ↓wp_tAnd, ↓wp_tOr, ↓wp_tYes, ↓wp_Lc, ↓wp_Meth, ↓wp_Prop, ↓wp_Bm, ↓wp_Slice, ↓wp_oNone, ↓wp_oSome, ↓intK_i, ↓wp_aSeq, ↓seqQ_l, ↓seqQ_t, ↓wp_aEnum, ↓enmK_t, ↓enmK_l, ↓wp_aZip, ↓zipK_t, ↓zipK_l, ↓seqK_ret, ↓seqK_brk, ↓seqK_ct, ↓wp_Nop, ↓wp_Break, ↓wp_Cont, ↓wp_Ret, ↓wp_RetN, ↓wp_Never, ↓wp_Expr, ↓wp_sIf, ↓wp_AsgN, ↓wp_Par, ↓parK_2, ↓wp_For, ↓wp_Sub, ↓finK_ret, ↓finK_nx, ↓wp_fn1, ↓wp_fn2, ↓wp_fn3, ↓wp_fn4, ↓wp_lift2, ↓wp_lift1, ↓wp_look2, ↓wp_liftn1, ↓wp_liftn2, ↓wp_liftn3, ↓wp_notD, ↓wp_len_t, ↓wp_len_l, ↓wp_tuple_l, ↓wp_tuple_t, ↓wp_list_l, ↓wp_list_t, ↓wp_isN, ↓wp_notN, ↓wp_T0, ↓wp_T1, ↓wp_T2, ↓wp_T3, ↓wp_T4, ↓wp_T5, ↓wp_L0, ↓wp_L1, ↓wp_L2, ↓wp_L3, ↓wp_L4, ↓wp_L5, ↓wp_newP, ↓wo_one, ↓wo_two, ↓wo_some, ↓wo_lt, ↓wo_le, ↓wo_gt, ↓wo_ge, ↓wo_sub, ↓wo_neg, ↓wo_addI, ↓wo_abs, ↓wo_int, ↓wo_intB, ↓wo_max2, ↓wo_min2, ↓wo_all, ↓wo_any, ↓wo_sum, ↓wo_eqI, ↓wo_neI, ↓truD_e, bodyK_nx, bodyK_ct, bodyK_ret, bodyK_brk, List.replicate, Nat.reduceSub, List.set, wipeR_nil, wipeR_cons, putL_nil, putL_cons, ↓wo_modA, ↓wo_divA, ↓wo_mulA, ↓wo_addSA, ↓wo_addTA, ↓wo_addLA, ↓wo_strI, ↓wo_strS, ↓wo_fmtI, ↓wo_fmtS, ↓jsK_s, ↓wp_js0, ↓wp_js1, ↓wp_Joined, ↓wp_joinL, ↓isS_str, ↓wp_mkOA])
theorem isL_own {m : Nat} {M : Mem} {xs : List D} (h : M[m]? = some (.lst xs)) : isL (.own m) M = true := by unfold isL; simp only [h]
theorem wp_app {m : Nat} {M : Mem} {xs : List D} {d : D} {Q : D → Mem → Prop} (h : M[m]? = some (.lst xs)) (hl : xs.length < sizeLine) : wp (appD (.own m) [d] M) Q ↔ Q (.p .non) (M.set m (.lst (xs ++ [d]))) := wp_of (by
  unfold appD
  simp only [h]
  rw [if_pos hl])
theorem wp_tupleO {m : Nat} {M : Mem} {ps : List P} {Q : D → Mem → Prop} (h : M[m]? = some (.lst (ps.map .p))) : wp (tupleF [.own m] M) Q ↔ Q (.p (.tup ps)) M := wp_of (by
  unfold tupleF itemsL
  simp only [h, allP_map])
theorem Pch.set {n k m : Nat} {M : Mem} {o : MO} (h : Pch n k M) (hm : m ≠ n) : Pch n k (M.set m o) := by
  obtain ⟨a, b, c, q⟩ := h
  exact ⟨a, b, c, { q with at_ := by rw [List.getElem?_set_ne hm]; exact q.at_ }⟩
/-- a row that a thread may hear -/
structure Row (s t : Nat) (r : List Int) : Prop where
  pw : r.Pairwise (· < ·)
  rng : ∀ i ∈ r, 0 ≤ i ∧ i < s
  own : (t : Int) ∉ r
  len : r.length ≤ s
theorem w_heard {n k s : Nat} {M : Mem} {Q : D → Mem → Prop} (h : Pch n k M) (hk : k ≤ 999000) (h0 : 1 ≤ s) (h5 : s ≤ 5)
    (q : ∀ hs M', HOk hs → hs.length = s → Pch n (k + 30) M' → Fr n M M' → Q (.p (rowsP hs)) M') : wp (m__law_heard [.own n, .p (.int s)] M) Q := by
  have hn := h.lt
  unfold m__law_heard b__law_heard
  walk_at "ev"
  rw [wp_mkO (by rw [sizeLine_eq]; simp)]
  refine w_coin (t := 3) h.app (by omega) (by omega) (by omega) fun v M1 hv hp1 hf1 hm1 => ?_
  walk_at "ev"
  have hM1 : M1[M.length]? = some (.lst []) := by
    rw [hf1.keep _ (by omega) (by simp)]
    simp
  refine wp_aRng1 ?_
  walk_at "ev"
  refine ⟨rfl, (rngK1 (by omega)).mpr ?_⟩
  refine wp_for (List.range s) (fun pre ρ M' => ∃ (x2 x5 : Option D) (rows : List (List Int)), ρ = [some (.own n), some (.p (.int s)), x2, some (.own M.length), some (.p (.int (2 + v))), x5] ∧ M'[M.length]? = some (.lst ((rows.map fun r => P.tup (r.map .int)).map .p)) ∧ rows.length = pre.length ∧ (∀ t r, rows[t]? = some r → Row s t r) ∧ Pch n (k + 1 + pre.length * 5) M' ∧ Fr n M M') ⟨none, none, [], rfl, hM1, rfl, by simp, hp1.mono (by omega), fr_app.trans hf1⟩ ?_ ?_
  · intro pre x post e ρ M2 ⟨x2, x5, rows, hρ, hrow, hl, hgood, hp2, hf2⟩
    subst hρ
    have hlen : pre.length < s := by
      have := congrArg List.length e
      simp at this
      omega
    have hx : x = pre.length := by
      have h1 : (List.range s)[pre.length]? = some x := by rw [e]; simp
      rw [List.getElem?_range hlen] at h1
      exact (Option.some.inj h1).symm
    refine ⟨_, rfl, ?_⟩
    walk_at "ev"
    rw [isL_own hrow]
    refine ⟨rfl, ?_⟩
    refine wp_aRng1 ?_
    walk_at "ev"
    refine ⟨rfl, (rngK1 (by omega)).mpr ?_⟩
    refine wp_lc (List.range s) (fun pre1 out M' => ∃ r : List Int, out = r.map .int ∧ r.Pairwise (· < ·) ∧ (∀ i ∈ r, 0 ≤ i ∧ i < pre1.length ∧ i ≠ x) ∧ r.length ≤ pre1.length ∧ M'[M.length]? = M2[M.length]? ∧ Pch n (k + 1 + pre.length * 5 + pre1.length) M' ∧ Fr n M M') ⟨[], rfl, .nil, by simp, by simp, rfl, hp2, hf2⟩ ?_ ?_
    · intro pre1 y post1 e1 out M3 ⟨r, ho, hpw, hr, hrl, hrow3, hp3, hf3⟩
      have hlen1 : pre1.length < s := by
        have := congrArg List.length e1
        simp at this
        omega
      have hy : y = pre1.length := by
        have h1 : (List.range s)[pre1.length]? = some y := by rw [e1]; simp
        rw [List.getElem?_range hlen1] at h1
        exact (Option.some.inj h1).symm
      refine ⟨_, rfl, ?_⟩
      walk_at "ev"
      have grow : ∀ i ∈ r, 0 ≤ i ∧ i < (pre1 ++ [y]).length ∧ i ≠ x := fun i hi => by
        have := hr i hi
        simp
        omega
      constructor
      · intro hne
        have hne' : ((y : Nat) : Int) ≠ x := by simpa using hne
        refine w_coin (t := 2 + v) hp3 (by omega) (by omega) (by omega) fun v1 M4 hv4 hp4 hf4 hm4 => ?_
        have hrow4 : M4[M.length]? = M2[M.length]? := by
          rw [hf4.keep _ (by omega) (by have := hf3.len; have := (List.getElem?_eq_some_iff.mp (hrow3.trans hrow)).1; omega)]
          exact hrow3
        walk_at "ev"
        constructor
        · intro _
          refine ⟨_, rfl, r ++ [((y : Nat) : Int)], by simp [ho], ?_, ?_, by simp; omega, hrow4, hp4.mono (by simp; omega), hf3.trans hf4⟩
          · rw [List.pairwise_append]
            refine ⟨hpw, by simp, fun a ha b hb => ?_⟩
            simp at hb
            have := hr a ha
            omega
          · intro i hi
            rcases List.mem_append.mp hi with hi | hi
            · exact grow i hi
            · simp at hi
              simp
              omega
        · intro _
          exact ⟨r, ho, hpw, grow, by simp; omega, hrow4, hp4.mono (by simp; omega), hf3.trans hf4⟩
      · intro _
        exact ⟨by simp, fun _ => ⟨r, ho, hpw, grow, by simp; omega, hrow3, hp3.mono (by simp), hf3⟩⟩
    · intro out M3 ⟨r, ho, hpw, hr, hrl, hrow3, hp3, hf3⟩
      subst ho
      simp at hrl hr
      rw [wp_mkL (by rw [List.length_map, sizeLine_eq]; omega)]
      walk_at "ev"
      rw [wp_app (hrow3.trans hrow) (by simp [hl, sizeLine_eq]; omega)]
      have hlt := (List.getElem?_eq_some_iff.mp (hrow3.trans hrow)).1
      refine ⟨_, _, rows ++ [r], rfl, by simp [hlt], by simp [hl], fun t r' ht => ?_, (hp3.set (by omega)).mono (by simp; omega), ⟨by have := hf3.len; simp; omega, fun j hj hj2 => by rw [List.getElem?_set_ne (by omega)]; exact hf3.keep j hj hj2⟩⟩
      · rw [List.getElem?_append] at ht
        split at ht
        · exact hgood t r' ht
        · rename_i hge
          have ht0 : t = rows.length := by
            have := (List.getElem?_eq_some_iff.mp ht).1
            simp at this
            omega
          subst ht0
          simp at ht
          subst ht
          refine ⟨hpw, fun i hi => by have := hr i hi; omega, fun hi => ?_, hrl⟩
          have := hr _ hi
          omega
  · intro ρ M2 ⟨x2, x5, rows, hρ, hrow, hl, hgood, hp2, hf2⟩
    subst hρ
    simp at hl
    walk_at "ev"
    rw [wp_tupleO hrow]
    refine q rows M2 ⟨by omega, by omega, fun r hr => ?_, fun r hr i hi => ?_, fun r hr => ?_, fun t r ht => (hgood t r ht).own⟩ hl (hp2.mono (by simp; omega)) hf2
    · obtain ⟨t, ht⟩ := List.getElem?_of_mem hr
      have := (hgood t r ht).len
      omega
    · obtain ⟨t, ht⟩ := List.getElem?_of_mem hr
      have := (hgood t r ht).rng i hi
      omega
    · obtain ⟨t, ht⟩ := List.getElem?_of_mem hr
      exact rise_pw (hgood t r ht).pw
theorem w_plain {n k s : Nat} {M : Mem} {Q : D → Mem → Prop} (h : Pch n k M) (hk : k ≤ 998000) (h0 : 1 ≤ s) (h5 : s ≤ 5)
    (q : ∀ hs ms M', HOk hs → hs.length = s → MOk s ms → Pch n (k + 40) M' → Fr n M M' → Q (.p (.tup [rowsP hs, marksP ms])) M') : wp (m__law_plain_web [.own n, .p (.int s)] M) Q := by
  unfold m__law_plain_web b__law_plain_web
  walk_at "ev"
  refine w_heard h (by omega) h0 h5 fun hs M1 hh hl hp1 hf1 => ?_
  refine w_marks hp1 (by omega) h0 h5 fun ms M2 hm hp2 hf2 _ => ?_
  walk_at "ev"
  exact q hs ms M2 hh hl hm hp2 (hf1.trans hf2)
theorem itemsD_own {m : Nat} {M : Mem} {xs : List D} (h : M[m]? = some (.lst xs)) : itemsD (.own m) M = some xs := by unfold itemsD; simp only [h]
theorem itemsD_scr {m : Nat} {M : Mem} {xs : List D} (h : M[m]? = some (.scr xs)) : itemsD (.own m) M = some xs := by unfold itemsD; simp only [h]
theorem wp_lenO {d : D} {M : Mem} {xs : List D} {Q : D → Mem → Prop} (h : itemsD d M = some xs) : wp (lenO [d] M) Q ↔ Q (.p (.int xs.length)) M := wp_of (by unfold lenO lenD; simp only [h])
theorem wp_ixI {d x : D} {M : Mem} {xs : List D} {v : Nat} {Q : D → Mem → Prop} (h : itemsD d M = some xs) (h2 : xs[v]? = some x) : wp (ixD d (.p (.int (v : Nat))) M) Q ↔ Q x M := wp_of (by unfold ixD; simp only [h, atI_nat h2])
theorem wo_powL {i j : Int} {Q : P → Prop} (h : 0 ≤ j ∧ j ≤ 1000000 ∧ i.natAbs < 2 ^ 64) : wo (powI (.int i) (.int j)) Q ↔ Q (.int (i ^ j.toNat)) := wo_of (if_pos h)
theorem w_pouch {at_ : Nat} {M : Mem} {ns : List Int} {Q : D → Mem → Prop} (h0 : M[0]? = some (.scr (ns.map fun i => .p (.int i)))) (ha : at_ ≤ 100)
    (q : ∀ M', Pch M.length 0 M' → (∃ o, M' = M ++ [o]) → Q (.own M.length) M') : wp (m__law_pouch [.own 0, .p (.int at_)] M) Q := by
  have la : (at_ : Int).natAbs.log2 < 200 := log64 (by omega) (by omega)
  unfold m__law_pouch b__law_pouch
  rw [wp_fn2, wp_Seq, wp_AsgN]
  refine wp_mono (Q := fun d M' => M' = M ∧ ∃ c : Int, d = .p (.int c)) ?_ ?_
  · walk_at "ev"
    rw [wp_lenO (itemsD_scr h0)]
    walk_at "ev"
    constructor
    · intro hc
      have hv : at_ < ns.length := by simpa using hc
      rw [wp_ixI (x := .p (.int ns[at_])) (itemsD_scr h0) (by simp [hv])]
      walk_at "ev"
      exact ⟨trivial, _, rfl⟩
    · intro hc
      rw [wo_mul (by have : (53 : Int).natAbs.log2 = 5 := by decide +kernel
                     omega)]
      walk_at "ev"
      exact ⟨trivial, _, rfl⟩
  · rintro _ M' ⟨hM, cell, rfl⟩
    subst hM
    walk_at "ev"
    rw [wo_powL (by decide), wo_mod (by decide), wo_mod (by decide)]
    generalize hx : (if cell < 0 then -cell else cell) % 10 ^ Int.toNat 57 % 4611686018427387847 = x
    have x0 : 0 ≤ x := by omega
    have x1 : x < 4611686018427387847 := by omega
    have lx : x.natAbs.log2 < 200 := log64 x0 (by omega)
    rw [wo_mul (by have : (31 : Int).natAbs.log2 = 4 := by decide +kernel
                   omega), wo_mul (by have : (1009 : Int).natAbs.log2 = 9 := by decide +kernel
                                      omega)]
    walk_at "ev"
    generalize hs : (if decide (cell < 0) = true then (1 : Int) else 0) = sg
    have s0 : 0 ≤ sg := by subst hs; split <;> omega
    have s1 : sg ≤ 1 := by subst hs; split <;> omega
    have ls : sg.natAbs.log2 < 200 := log64 (by omega) (by omega)
    rw [wo_mul (by have : (23 : Int).natAbs.log2 = 4 := by decide +kernel
                   omega)]
    walk_at "ev"
    rw [wo_powL (by decide)]
    walk_at "ev"
    rw [wo_powL (by decide), wo_powL (by decide), wo_mul (by decide +kernel), wo_mod (by decide), wp_mkO (by rw [sizeLine_eq]; simp)]
    refine q _ ⟨_, _, 0, List.getElem?_concat_length, Int.emod_nonneg _ (by decide), by omega, by omega, by omega, by omega⟩ ⟨_, rfl⟩
end DL

set_option maxHeartbeats 4000000
namespace DL
open PySem PySem.Spec PyProof.Rows L2
local macro_rules | `(tactic| walk_at "ev") => `(tactic| try simp only [↓wp_var0, ↓wp_varS, ↓wp_C, ↓wp_Op, ↓wp_Un, ↓wp_aNil, ↓wp_aCons, ↓wp_And, ↓wp_Or, ↓wp_If, ↓wp_Disp, ↓wp_Call, ↓wp_CallB, ↓wp_tCmp, ↓wp_bolD, ↓wp_Chain, ↓wp_tChn, ↓wp_tru, ↓wp_tNot, ↓wp_tAnd, ↓wp_tOr, ↓wp_tYes, ↓wp_Lc, ↓wp_Meth, ↓wp_Prop, ↓wp_Bm, ↓wp_Slice, ↓wp_oNone, ↓wp_oSome, ↓intK_i, ↓wp_aSeq, ↓seqQ_l, ↓seqQ_t, ↓wp_aEnum, ↓enmK_t, ↓enmK_l, ↓wp_aZip, ↓zipK_t, ↓zipK_l, ↓wp_Seq, ↓seqK_nx, ↓seqK_ret, ↓seqK_brk, ↓seqK_ct, ↓wp_Nop, ↓wp_Break, ↓wp_Cont, ↓wp_Ret, ↓wp_RetN, ↓wp_Never, ↓wp_Expr, ↓wp_sIf, ↓wp_AsgN, ↓wp_Par, ↓parK_2, ↓wp_For, ↓wp_Sub, ↓finK_ret, ↓finK_nx, ↓wp_fn1, ↓wp_fn2, ↓wp_fn3, ↓wp_fn4, ↓wp_lift2, ↓wp_lift1, ↓wp_look2, ↓wp_liftn1, ↓wp_liftn2, ↓wp_liftn3, ↓wp_notD, ↓wp_len_t, ↓wp_len_l, ↓wp_tuple_l, ↓wp_tuple_t, ↓wp_list_l, ↓wp_list_t, ↓wp_isN, ↓wp_notN, ↓wp_T0, ↓wp_T1, ↓wp_T2, ↓wp_T3, ↓wp_T4, ↓wp_T5, ↓wp_L0, ↓wp_L1, ↓wp_L2, ↓wp_L3, ↓wp_L4, ↓wp_L5, ↓wp_newP, ↓wo_one, ↓wo_two, ↓wo_some, ↓wo_lt, ↓wo_le, ↓wo_gt, ↓wo_ge, ↓wo_sub, ↓wo_neg, ↓wo_addI, ↓wo_abs, ↓wo_int, ↓wo_intB, ↓wo_max2, ↓wo_min2, ↓wo_all, ↓wo_any, ↓wo_sum, ↓wo_eqI, ↓wo_neI, ↓truD_e, bodyK_nx, bodyK_ct, bodyK_ret, bodyK_brk, List.replicate, Nat.reduceSub, List.set, wipeR_nil, wipeR_cons, putL_nil, putL_cons])
local macro_rules | `(tactic| walk_at "evA") => `(tactic| try simp only [↓wp_var0, ↓wp_varS, ↓wp_C, ↓wp_Op, ↓wp_Un, ↓wp_aNil, ↓wp_aCons, ↓wp_And, ↓wp_Or, ↓wp_If, ↓wp_Disp, ↓wp_Call, ↓wp_CallB, ↓wp_tCmp, ↓wp_bolD, ↓wp_Chain, ↓wp_tChn, ↓wp_tru, ↓wp_tNot, ↓wp_tAnd, ↓wp_tOr, ↓wp_tYes, ↓wp_Lc, ↓wp_Meth, ↓wp_Prop, ↓wp_Bm, ↓wp_Slice, ↓wp_oNone, ↓wp_oSome, ↓intK_i, ↓wp_aSeq, ↓seqQ_l, ↓seqQ_t, ↓wp_aEnum, ↓enmK_t, ↓enmK_l, ↓wp_aZip, ↓zipK_t, ↓zipK_l, ↓wp_Seq, ↓seqK_nx, ↓seqK_ret, ↓seqK_brk, ↓seqK_ct, ↓wp_Nop, ↓wp_Break, ↓wp_Cont, ↓wp_Ret, ↓wp_RetN, ↓wp_Never, ↓wp_Expr, ↓wp_sIf, ↓wp_AsgN, ↓wp_Par, ↓parK_2, ↓wp_For, ↓wp_Sub, ↓finK_ret, ↓finK_nx, ↓wp_fn1, ↓wp_fn2, ↓wp_fn3, ↓wp_fn4, ↓wp_lift2, ↓wp_lift1, ↓wp_look2, ↓wp_liftn1, ↓wp_liftn2, ↓wp_liftn3, ↓wp_notD, ↓wp_len_t, ↓wp_len_l, ↓wp_tuple_l, ↓wp_tuple_t, ↓wp_list_l, ↓wp_list_t, ↓wp_isN, ↓wp_notN, ↓wp_T0, ↓wp_T1, ↓wp_T2, ↓wp_T3, ↓wp_T4, ↓wp_T5, ↓wp_L0, ↓wp_L1, ↓wp_L2, ↓wp_L3, ↓wp_L4, ↓wp_L5, ↓wp_newP, ↓wo_one, ↓wo_two, ↓wo_some, ↓wo_lt, ↓wo_le, ↓wo_gt, ↓wo_ge, ↓wo_sub, ↓wo_neg, ↓wo_addI, ↓wo_abs, ↓wo_int, ↓wo_intB, ↓wo_max2, ↓wo_min2, ↓wo_all, ↓wo_any, ↓wo_sum, ↓wo_eqI, ↓wo_neI, ↓truD_e, bodyK_nx, bodyK_ct, bodyK_ret, bodyK_brk, List.replicate, Nat.reduceSub, List.set, wipeR_nil, wipeR_cons, putL_nil, putL_cons, ↓wo_modA, ↓wo_divA, ↓wo_mulA, ↓wo_addSA, ↓wo_addTA, ↓wo_addLA, ↓wo_strI, ↓wo_strS, ↓wo_fmtI, ↓wo_fmtS, ↓jsK_s, ↓wp_js0, ↓wp_js1, ↓wp_Joined, ↓wp_joinL, ↓isS_str, ↓wp_mkOA])
local macro_rules | `(tactic| walk_at "evs") => `(tactic| try simp only [↓wp_var0, ↓wp_varS, ↓wp_C, ↓wp_Op, ↓wp_Un, ↓wp_aNil, ↓wp_aCons, ↓wp_And, ↓wp_Or, ↓wp_If, ↓wp_Disp, ↓wp_Call, ↓wp_CallB, ↓wp_tCmp, ↓wp_bolD, ↓wp_Chain, ↓wp_tChn, ↓wp_tru, ↓wp_tNot, ↓wp_tAnd, ↓wp_tOr, ↓wp_tYes, ↓wp_Lc, ↓wp_Meth, ↓wp_Prop, ↓wp_Bm, ↓wp_Slice, ↓wp_oNone, ↓wp_oSome, ↓intK_i, ↓wp_aSeq, ↓seqQ_l, ↓seqQ_t, ↓wp_aEnum, ↓enmK_t, ↓enmK_l, ↓wp_aZip, ↓zipK_t, ↓zipK_l, ↓seqK_ret, ↓seqK_brk, ↓seqK_ct, ↓wp_Nop, ↓wp_Break, ↓wp_Cont, ↓wp_Ret, ↓wp_RetN, ↓wp_Never, ↓wp_Expr, ↓wp_sIf, ↓wp_AsgN, ↓wp_Par, ↓parK_2, ↓wp_For, ↓wp_Sub, ↓finK_ret, ↓finK_nx, ↓wp_fn1, ↓wp_fn2, ↓wp_fn3, ↓wp_fn4, ↓wp_lift2, ↓wp_lift1, ↓wp_look2, ↓wp_liftn1, ↓wp_liftn2, ↓wp_liftn3, ↓wp_notD, ↓wp_len_t, ↓wp_len_l, ↓wp_tuple_l, ↓wp_tuple_t, ↓wp_list_l, ↓wp_list_t, ↓wp_isN, ↓wp_notN, ↓wp_T0, ↓wp_T1, ↓wp_T2, ↓wp_T3, ↓wp_T4, ↓wp_T5, ↓wp_L0, ↓wp_L1, ↓wp_L2, ↓wp_L3, ↓wp_L4, ↓wp_L5, ↓wp_newP, ↓wo_one, ↓wo_two, ↓wo_some, ↓wo_lt, ↓wo_le, ↓wo_gt, ↓wo_ge, ↓wo_sub, ↓wo_neg, ↓wo_addI, ↓wo_abs, ↓wo_int, ↓wo_intB, ↓wo_max2, ↓wo_min2, ↓wo_all, ↓wo_any, ↓wo_sum, ↓wo_eqI, ↓wo_neI, ↓truD_e, bodyK_nx, bodyK_ct, bodyK_ret, bodyK_brk, List.replicate, Nat.reduceSub, List.set, wipeR_nil, wipeR_cons, putL_nil, putL_cons])
local macro_rules | `(tactic| walk_at "evsA") => `(tactic| try simp only [↓wp_var0, ↓wp_varS, ↓wp_C, ↓wp_Op, ↓wp_Un, ↓wp_aNil, ↓wp_aCons, ↓wp_And, ↓wp_Or, ↓wp_If, ↓wp_Disp, ↓wp_Call, ↓wp_CallB, ↓wp_tCmp, ↓wp_bolD, ↓wp_Chain, ↓wp_tChn, ↓wp_tru, ↓wp_tNot, ↓wp_tAnd, ↓wp_tOr, ↓wp_tYes, ↓wp_Lc, ↓wp_Meth, ↓wp_Prop, ↓wp_Bm, ↓wp_Slice, ↓wp_oNone, ↓wp_oSome, ↓intK_i, ↓wp_aSeq, ↓seqQ_l, ↓seqQ_t, ↓wp_aEnum, ↓enmK_t, ↓enmK_l, ↓wp_aZip, ↓zipK_t, ↓zipK_l, ↓seqK_ret, ↓seqK_brk, ↓seqK_ct, ↓wp_Nop, ↓wp_Break, ↓wp_Cont, ↓wp_Ret, ↓wp_RetN, ↓wp_Never, ↓wp_Expr, ↓wp_sIf, ↓wp_AsgN, ↓wp_Par, ↓parK_2, ↓wp_For, ↓wp_Sub, ↓finK_ret, ↓finK_nx, ↓wp_fn1, ↓wp_fn2, ↓wp_fn3, ↓wp_fn4, ↓wp_lift2, ↓wp_lift1, ↓wp_look2, ↓wp_liftn1, ↓wp_liftn2, ↓wp_liftn3, ↓wp_notD, ↓wp_len_t, ↓wp_len_l, ↓wp_tuple_l, ↓wp_tuple_t, ↓wp_list_l, ↓wp_list_t, ↓wp_isN, ↓wp_notN, ↓wp_T0, ↓wp_T1, ↓wp_T2, ↓wp_T3, ↓wp_T4, ↓wp_T5, ↓wp_L0, ↓wp_L1, ↓wp_L2, ↓wp_L3, ↓wp_L4, ↓wp_L5, ↓wp_newP, ↓wo_one, ↓wo_two, ↓wo_some, ↓wo_lt, ↓wo_le, ↓wo_gt, ↓wo_ge, ↓wo_sub, ↓wo_neg, ↓wo_addI, ↓wo_abs, ↓wo_int, ↓wo_intB, ↓wo_max2, ↓wo_min2, ↓wo_all, ↓wo_any, ↓wo_sum, ↓wo_eqI, ↓wo_neI, ↓truD_e, bodyK_nx, bodyK_ct, bodyK_ret, bodyK_brk, List.replicate, Nat.reduceSub, List.set, wipeR_nil, wipeR_cons, putL_nil, putL_cons, ↓wo_modA, ↓wo_divA, ↓wo_mulA, ↓wo_addSA, ↓wo_addTA, ↓wo_addLA, ↓wo_strI, ↓wo_strS, ↓wo_fmtI, ↓wo_fmtS, ↓jsK_s, ↓wp_js0, ↓wp_js1, ↓wp_Joined, ↓wp_joinL, ↓isS_str, ↓wp_mkOA])
theorem wp_look_own {f : P → P → Option P} {a : P} {m : Nat} {M : Mem} {ps : List P} {Q : D → Mem → Prop} (h : M[m]? = some (.lst (ps.map .p))) : wp (look2 f (.p a) (.own m) M) Q ↔ wo (f a (.lst ps)) fun c => Q (.p c) M := by
  unfold look2 seeD
  simp only [h, allP_map, Option.map_some]
  cases f a (.lst ps) <;> simp [wp_ok, wp_none, wo_some, wo_none]
theorem wo_neL0 {xs : List Int} {Q : P → Prop} : wo (neP (.lst (xs.map .int)) (.lst [])) Q ↔ Q (.bl (!decide (xs = []))) := wo_of (neP_ll (ys := []))
theorem mapPI {xs : List Int} : (xs.map P.int).map D.p = xs.map fun z => D.p (.int z) := by simp
theorem sz_lt {n : Nat} (h : n < 10000) : n < sizeLine := by rw [sizeLine_eq]; omega
theorem sz_le {n : Nat} (h : n ≤ 10000) : n ≤ sizeLine := by rw [sizeLine_eq]; omega
theorem rowsP_at {hs : List (List Int)} {o : Nat} (h : o < hs.length) : (hs.map fun r => P.tup (r.map .int))[o]? = some (.tup ((hs.getD o []).map .int)) := by
  simp [h]
theorem ledStep_len {hs : List (List Int)} {f : List Int} {o : Nat} : (ledStep hs f o).length ≤ f.length + 1 := by
  unfold ledStep
  split
  · omega
  · split
    · simp
    · omega
def ledI (hs : List (List Int)) (t : Int) (M0 : Mem) (f : List Int) (ρ : Rho) (M : Mem) : Prop := ∃ x3 x4 x5 : Option D, ρ = [some (.p (rowsP hs)), some (.p (.int t)), some (.own M0.length), x3, x4, x5] ∧ M = M0 ++ [.lst ((f.map .int).map .p)]
theorem w_led {hs : List (List Int)} {t : Int} {M : Mem} {Q : D → Mem → Prop} (h : HOk hs)
    (q : ∀ X, Q (.p (.lst ((ledS hs t).map .int))) (M ++ X)) : wp (m__law_led [.p (rowsP hs), .p (.int t)] M) Q := by
  have hm := h.most
  unfold m__law_led b__law_led
  walk_at "ev"
  rw [wp_mkO (by rw [sizeLine_eq]; simp)]
  refine wp_aRng1 ?_
  unfold rowsP
  walk_at "ev"
  refine ⟨rfl, (rngK1 (by simp; omega)).mpr ?_⟩
  simp only [List.length_map]
  refine wp_for (List.range hs.length) (fun pre ρ M' => ∃ f, f = pre.foldl (fun f _ => ledRound hs f) [t] ∧ f.length ≤ 1 + pre.length * 5 ∧ ledI hs t M f ρ M') ⟨[t], rfl, by simp, none, none, none, rfl, by simp⟩ ?_ ?_
  · rintro pre x post e ρ M2 ⟨f, hf, hl, x3, x4, x5, rfl, rfl⟩
    have hlen : pre.length < hs.length := by
      have := congrArg List.length e
      simp at this
      omega
    refine ⟨_, rfl, ?_⟩
    walk_at "ev"
    refine wp_aRng1 ?_
    unfold rowsP
    walk_at "ev"
    refine ⟨rfl, (rngK1 (by simp; omega)).mpr ?_⟩
    simp only [List.length_map]
    refine wp_for (List.range hs.length) (fun pre1 ρ M' => ∃ f1, f1 = pre1.foldl (ledStep hs) f ∧ f1.length ≤ 1 + pre.length * 5 + pre1.length ∧ ledI hs t M f1 ρ M') ⟨f, rfl, by simpa using hl, _, _, _, rfl, rfl⟩ ?_ ?_
    · rintro pre1 y post1 e1 ρ M3 ⟨f1, hf1, hl1, y3, y4, y5, rfl, rfl⟩
      have hlen1 : pre1.length < hs.length := by
        have := congrArg List.length e1
        simp at this
        omega
      have hy : y < hs.length := by
        have : y ∈ List.range hs.length := by rw [e1]; simp
        simpa using this
      have hat : (M ++ [MO.lst ((f1.map .int).map .p)])[M.length]? = some (.lst ((f1.map P.int).map .p)) := by simp
      have step : pre1.foldl (ledStep hs) f = f1 := hf1.symm
      refine ⟨_, rfl, ?_⟩
      walk_at "ev"
      rw [wp_look_own hat, wo_of ninP_il]
      walk_at "ev"
      constructor
      · intro hn
        have hn' : (y : Int) ∉ f1 := by simpa using hn
        unfold rowsP
        rw [wp_ixT (rowsP_at hy)]
        walk_at "ev"
        rw [mapPI (xs := hs.getD y [])]
        refine wp_lcp (i := fun z => D.p (.int z)) (hs.getD y []) (fun z => decide (z ∈ f1)) (fun z => .int z) (fun z hz => ⟨_, rfl, ?_⟩) ?_
        · walk_at "ev"
          rw [wp_look_own hat, wo_of inP_il]
          walk_at "ev"
          simp
        · rw [wp_mkL (sz_le (by
            have := h.short (hs.getD y []) (by simp [hy])
            have := List.length_filter_le (fun z => decide (z ∈ f1)) (hs.getD y [])
            simp only [List.length_map]
            omega))]
          walk_at "ev"
          rw [wo_neL0]
          walk_at "ev"
          have hany : (!decide ((hs.getD y []).filter (fun z => decide (z ∈ f1)) = [])) = hearsAny (hs.getD y []) f1 := by
            unfold hearsAny
            rw [Bool.eq_iff_iff]
            simp
          rw [hany]
          constructor
          · intro hh
            rw [isL_own hat]
            refine ⟨rfl, ?_⟩
            rw [wp_app hat (sz_lt (by simp; omega))]
            refine ⟨f1 ++ [(y : Int)], ?_, by simp; omega, _, _, _, rfl, by simp⟩
            rw [List.foldl_append, step]
            simp only [List.foldl_cons, List.foldl_nil]
            unfold ledStep
            rw [if_neg hn', if_pos hh]
          · intro hh
            refine ⟨f1, ?_, by simp; omega, _, _, _, rfl, rfl⟩
            rw [List.foldl_append, step]
            simp only [List.foldl_cons, List.foldl_nil]
            unfold ledStep
            rw [if_neg hn', if_neg (by rw [hh]; decide)]
      · intro hn
        have hn' : (y : Int) ∈ f1 := by simpa using hn
        simp only [Bool.false_eq_true, false_implies, true_and, forall_const]
        refine ⟨f1, ?_, by simp; omega, _, _, _, rfl, rfl⟩
        rw [List.foldl_append, step]
        simp [ledStep, hn']
    · rintro ρ M3 ⟨f1, hf1, hl1, y3, y4, y5, rfl, rfl⟩
      refine ⟨f1, ?_, by simp at hl1 ⊢; omega, _, _, _, rfl, rfl⟩
      rw [List.foldl_append, ← hf, hf1]
      rfl
  · rintro ρ M2 ⟨f, hf, hl, x3, x4, x5, rfl, rfl⟩
    walk_at "ev"
    have e5 : sortedA [.own M.length] (M ++ [MO.lst ((f.map .int).map .p)]) = some (.ok (.p (.lst ((ledS hs t).map .int))), M ++ [MO.lst ((f.map .int).map .p)]) := by
      refine sortedA_of ?_
      simp only [sortedF, intsOf, mget0, allP_map, Option.bind_some, ints_map]
      rw [hf]
      rfl
    rw [wp_of e5]
    exact q _
theorem eq_led : ∀ ps c, F_reached ps = some c → ∀ M, ∃ extra d0, m__law_led (ps.map .p) M = some (.ok d0, M ++ extra) ∧ Frz M.length extra d0 c := by
  intro ps c h M
  unfold F_reached at h
  split at h
  · rename_i p t
    split at h
    · rename_i hs hp
      split at h
      · rename_i hc
        have := Option.some.inj h
        subst this
        have := heardOf_eq hp
        subst this
        obtain ⟨d, M', e, X, rfl, rfl⟩ : wp (m__law_led [.p (rowsP hs), .p (.int t)] M) fun d M' => ∃ X, M' = M ++ X ∧ d = .p (.lst ((ledS hs t).map .int)) := w_led hc.1 fun X => ⟨X, rfl, rfl⟩
        exact ⟨X, _, e, .inl rfl⟩
      · cases h
    · cases h
  · cases h
end DL

set_option maxHeartbeats 4000000
namespace DL
open PySem PySem.Spec PyProof.Rows L2
local macro_rules | `(tactic| walk_at "ev") => `(tactic| try simp only [↓wp_var0, ↓wp_varS, ↓wp_C, ↓wp_Op, ↓wp_Un, ↓wp_aNil, ↓wp_aCons, ↓wp_And, ↓wp_Or, ↓wp_If, ↓wp_Disp, ↓wp_Call, ↓wp_CallB, ↓wp_tCmp, ↓wp_bolD, ↓wp_Chain, ↓wp_tChn, ↓wp_tru, ↓wp_tNot, ↓wp_tAnd, ↓wp_tOr, ↓wp_tYes, ↓wp_Lc, ↓wp_Meth, ↓wp_Prop, ↓wp_Bm, ↓wp_Slice, ↓wp_oNone, ↓wp_oSome, ↓intK_i, ↓wp_aSeq, ↓seqQ_l, ↓seqQ_t, ↓wp_aEnum, ↓enmK_t, ↓enmK_l, ↓wp_aZip, ↓zipK_t, ↓zipK_l, ↓wp_Seq, ↓seqK_nx, ↓seqK_ret, ↓seqK_brk, ↓seqK_ct, ↓wp_Nop, ↓wp_Break, ↓wp_Cont, ↓wp_Ret, ↓wp_RetN, ↓wp_Never, ↓wp_Expr, ↓wp_sIf, ↓wp_AsgN, ↓wp_Par, ↓parK_2, ↓wp_For, ↓wp_Sub, ↓finK_ret, ↓finK_nx, ↓wp_fn1, ↓wp_fn2, ↓wp_fn3, ↓wp_fn4, ↓wp_lift2, ↓wp_lift1, ↓wp_look2, ↓wp_liftn1, ↓wp_liftn2, ↓wp_liftn3, ↓wp_notD, ↓wp_len_t, ↓wp_len_l, ↓wp_tuple_l, ↓wp_tuple_t, ↓wp_list_l, ↓wp_list_t, ↓wp_isN, ↓wp_notN, ↓wp_T0, ↓wp_T1, ↓wp_T2, ↓wp_T3, ↓wp_T4, ↓wp_T5, ↓wp_L0, ↓wp_L1, ↓wp_L2, ↓wp_L3, ↓wp_L4, ↓wp_L5, ↓wp_newP, ↓wo_one, ↓wo_two, ↓wo_some, ↓wo_lt, ↓wo_le, ↓wo_gt, ↓wo_ge, ↓wo_sub, ↓wo_neg, ↓wo_addI, ↓wo_abs, ↓wo_int, ↓wo_intB, ↓wo_max2, ↓wo_min2, ↓wo_all, ↓wo_any, ↓wo_sum, ↓wo_eqI, ↓wo_neI, ↓truD_e, bodyK_nx, bodyK_ct, bodyK_ret, bodyK_brk, List.replicate, Nat.reduceSub, List.set, wipeR_nil, wipeR_cons, putL_nil, putL_cons])
local macro_rules | `(tactic| walk_at "evA") => `(tactic| try simp only [↓wp_var0, ↓wp_varS, ↓wp_C, ↓wp_Op, ↓wp_Un, ↓wp_aNil, ↓wp_aCons, ↓wp_And, ↓wp_Or, ↓wp_If, ↓wp_Disp, ↓wp_Call, ↓wp_CallB, ↓wp_tCmp, ↓wp_bolD, ↓wp_Chain, ↓wp_tChn, ↓wp_tru, ↓wp_tNot, ↓wp_tAnd, ↓wp_tOr, ↓wp_tYes, ↓wp_Lc, ↓wp_Meth, ↓wp_Prop, ↓wp_Bm, ↓wp_Slice, ↓wp_oNone, ↓wp_oSome, ↓intK_i, ↓wp_aSeq, ↓seqQ_l, ↓seqQ_t, ↓wp_aEnum, ↓enmK_t, ↓enmK_l, ↓wp_aZip, ↓zipK_t, ↓zipK_l, ↓wp_Seq, ↓seqK_nx, ↓seqK_ret, ↓seqK_brk, ↓seqK_ct, ↓wp_Nop, ↓wp_Break, ↓wp_Cont, ↓wp_Ret, ↓wp_RetN, ↓wp_Never, ↓wp_Expr, ↓wp_sIf, ↓wp_AsgN, ↓wp_Par, ↓parK_2, ↓wp_For, ↓wp_Sub, ↓finK_ret, ↓finK_nx, ↓wp_fn1, ↓wp_fn2, ↓wp_fn3, ↓wp_fn4, ↓wp_lift2, ↓wp_lift1, ↓wp_look2, ↓wp_liftn1, ↓wp_liftn2, ↓wp_liftn3, ↓wp_notD, ↓wp_len_t, ↓wp_len_l, ↓wp_tuple_l, ↓wp_tuple_t, ↓wp_list_l, ↓wp_list_t, ↓wp_isN, ↓wp_notN, ↓wp_T0, ↓wp_T1, ↓wp_T2, ↓wp_T3, ↓wp_T4, ↓wp_T5, ↓wp_L0, ↓wp_L1, ↓wp_L2, ↓wp_L3, ↓wp_L4, ↓wp_L5, ↓wp_newP, ↓wo_one, ↓wo_two, ↓wo_some, ↓wo_lt, ↓wo_le, ↓wo_gt, ↓wo_ge, ↓wo_sub, ↓wo_neg, ↓wo_addI, ↓wo_abs, ↓wo_int, ↓wo_intB, ↓wo_max2, ↓wo_min2, ↓wo_all, ↓wo_any, ↓wo_sum, ↓wo_eqI, ↓wo_neI, ↓truD_e, bodyK_nx, bodyK_ct, bodyK_ret, bodyK_brk, List.replicate, Nat.reduceSub, List.set, wipeR_nil, wipeR_cons, putL_nil, putL_cons, ↓wo_modA, ↓wo_divA, ↓wo_mulA, ↓wo_addSA, ↓wo_addTA, ↓wo_addLA, ↓wo_strI, ↓wo_strS, ↓wo_fmtI, ↓wo_fmtS, ↓jsK_s, ↓wp_js0, ↓wp_js1, ↓wp_Joined, ↓wp_joinL, ↓isS_str, ↓wp_mkOA])
local macro_rules | `(tactic| walk_at "evs") => `(tactic| try simp only [↓wp_var0, ↓wp_varS, ↓wp_C, ↓wp_Op, ↓wp_Un, ↓wp_aNil, ↓wp_aCons, ↓wp_And, ↓wp_Or, ↓wp_If, ↓wp_Disp, ↓wp_Call, ↓wp_CallB, ↓wp_tCmp, ↓wp_bolD, ↓wp_Chain, ↓wp_tChn, ↓wp_tru, ↓wp_tNot, ↓wp_tAnd, ↓wp_tOr, ↓wp_tYes, ↓wp_Lc, ↓wp_Meth, ↓wp_Prop, ↓wp_Bm, ↓wp_Slice, ↓wp_oNone, ↓wp_oSome, ↓intK_i, ↓wp_aSeq, ↓seqQ_l, ↓seqQ_t, ↓wp_aEnum, ↓enmK_t, ↓enmK_l, ↓wp_aZip, ↓zipK_t, ↓zipK_l, ↓seqK_ret, ↓seqK_brk, ↓seqK_ct, ↓wp_Nop, ↓wp_Break, ↓wp_Cont, ↓wp_Ret, ↓wp_RetN, ↓wp_Never, ↓wp_Expr, ↓wp_sIf, ↓wp_AsgN, ↓wp_Par, ↓parK_2, ↓wp_For, ↓wp_Sub, ↓finK_ret, ↓finK_nx, ↓wp_fn1, ↓wp_fn2, ↓wp_fn3, ↓wp_fn4, ↓wp_lift2, ↓wp_lift1, ↓wp_look2, ↓wp_liftn1, ↓wp_liftn2, ↓wp_liftn3, ↓wp_notD, ↓wp_len_t, ↓wp_len_l, ↓wp_tuple_l, ↓wp_tuple_t, ↓wp_list_l, ↓wp_list_t, ↓wp_isN, ↓wp_notN, ↓wp_T0, ↓wp_T1, ↓wp_T2, ↓wp_T3, ↓wp_T4, ↓wp_T5, ↓wp_L0, ↓wp_L1, ↓wp_L2, ↓wp_L3, ↓wp_L4, ↓wp_L5, ↓wp_newP, ↓wo_one, ↓wo_two, ↓wo_some, ↓wo_lt, ↓wo_le, ↓wo_gt, ↓wo_ge, ↓wo_sub, ↓wo_neg, ↓wo_addI, ↓wo_abs, ↓wo_int, ↓wo_intB, ↓wo_max2, ↓wo_min2, ↓wo_all, ↓wo_any, ↓wo_sum, ↓wo_eqI, ↓wo_neI, ↓truD_e, bodyK_nx, bodyK_ct, bodyK_ret, bodyK_brk, List.replicate, Nat.reduceSub, List.set, wipeR_nil, wipeR_cons, putL_nil, putL_cons])
local macro_rules | `(tactic| walk_at "evsA") => `(tactic| try simp only [↓wp_var0, ↓wp_varS, ↓wp_C, ↓wp_Op, ↓wp_Un, ↓wp_aNil, ↓wp_aCons, ↓wp_And, ↓wp_Or, ↓wp_If, ↓wp_Disp, ↓wp_Call, ↓wp_CallB, ↓wp_tCmp, ↓wp_bolD, ↓wp_Chain, ↓wp_tChn, ↓wp_tru, ↓wp_tNot, ↓wp_tAnd, ↓wp_tOr, ↓wp_tYes, ↓wp_Lc, ↓wp_Meth, ↓wp_Prop, ↓wp_Bm, ↓wp_Slice, ↓wp_oNone, ↓wp_oSome, ↓intK_i, ↓wp_aSeq, ↓seqQ_l, ↓seqQ_t, ↓wp_aEnum, ↓enmK_t, ↓enmK_l, ↓wp_aZip, ↓zipK_t, ↓zipK_l, ↓seqK_ret, ↓seqK_brk, ↓seqK_ct, ↓wp_Nop, ↓wp_Break, ↓wp_Cont, ↓wp_Ret, ↓wp_RetN, ↓wp_Never, ↓wp_Expr, ↓wp_sIf, ↓wp_AsgN, ↓wp_Par, ↓parK_2, ↓wp_For, ↓wp_Sub, ↓finK_ret, ↓finK_nx, ↓wp_fn1, ↓wp_fn2, ↓wp_fn3, ↓wp_fn4, ↓wp_lift2, ↓wp_lift1, ↓wp_look2, ↓wp_liftn1, ↓wp_liftn2, ↓wp_liftn3, ↓wp_notD, ↓wp_len_t, ↓wp_len_l, ↓wp_tuple_l, ↓wp_tuple_t, ↓wp_list_l, ↓wp_list_t, ↓wp_isN, ↓wp_notN, ↓wp_T0, ↓wp_T1, ↓wp_T2, ↓wp_T3, ↓wp_T4, ↓wp_T5, ↓wp_L0, ↓wp_L1, ↓wp_L2, ↓wp_L3, ↓wp_L4, ↓wp_L5, ↓wp_newP, ↓wo_one, ↓wo_two, ↓wo_some, ↓wo_lt, ↓wo_le, ↓wo_gt, ↓wo_ge, ↓wo_sub, ↓wo_neg, ↓wo_addI, ↓wo_abs, ↓wo_int, ↓wo_intB, ↓wo_max2, ↓wo_min2, ↓wo_all, ↓wo_any, ↓wo_sum, ↓wo_eqI, ↓wo_neI, ↓truD_e, bodyK_nx, bodyK_ct, bodyK_ret, bodyK_brk, List.replicate, Nat.reduceSub, List.set, wipeR_nil, wipeR_cons, putL_nil, putL_cons, ↓wo_modA, ↓wo_divA, ↓wo_mulA, ↓wo_addSA, ↓wo_addTA, ↓wo_addLA, ↓wo_strI, ↓wo_strS, ↓wo_fmtI, ↓wo_fmtS, ↓jsK_s, ↓wp_js0, ↓wp_js1, ↓wp_Joined, ↓wp_joinL, ↓isS_str, ↓wp_mkOA])
section
variable {M : Mem} {Q : D → Mem → Prop} {hs : List (List Int)} {ms : List Int}
theorem wo_reached {Q : P → Prop} {t : Nat} (h : HOk hs) (h1 : t < hs.length) : wo (F_reached [rowsP hs, .int t]) Q ↔ Q (.lst ((ledS hs t).map .int)) := wo_of (F_reached_eq h (by omega) (by omega))
theorem wp_isi {p : P} {n : String} (h : okP p = true) (hn : hasB n = true) : wp (isiO isiT [.p p, .p (.ty n)] M) Q ↔ Q (.p (.bl (isTy n p))) M := wp_of (isi_ty h hn M)
theorem insW : insD "Web" (.p (webP hs ms)) M = true := by simp [insD, webP]
theorem wp_len_rows : wp (lenO [.p (rowsP hs)] M) Q ↔ Q (.p (.int hs.length)) M := by unfold rowsP; rw [wp_len_t, List.length_map]
theorem wp_len_marks : wp (lenO [.p (marksP ms)] M) Q ↔ Q (.p (.int ms.length)) M := by unfold marksP; rw [wp_len_t, List.length_map]
theorem wp_root_list (h : HOk hs) : wp (m__law_root_list [.p (rowsP hs)] M) Q ↔ Q (.p (.lst ((rootsL hs).map .int))) M := by
  have hm := h.most
  suffices key : wp (m__law_root_list [.p (rowsP hs)] M) fun d M' => d = .p (.lst ((rootsL hs).map .int)) ∧ M' = M from wp_of (wp_eq key)
  unfold m__law_root_list b__law_root_list
  walk_at "ev"
  refine wp_aRng1 ?_
  conv => arg 1; unfold rowsP
  walk_at "ev"
  refine ⟨rfl, (rngK1 (by simp; omega)).mpr ?_⟩
  simp only [List.length_map]
  refine wp_lcp (List.range hs.length) (fun i => decide ((ledS hs i).length = hs.length)) (fun i => .int i) (fun i hi => ⟨_, rfl, ?_⟩) ?_
  · have hi := List.mem_range.mp hi
    walk_at "ev"
    show wo (F_reached [rowsP hs, .int i]) _
    rw [wo_reached h hi]
    walk_at "ev"
    rw [wp_len_rows]
    walk_at "ev"
    simp only [List.length_map]
    refine ⟨by trivial, ?_, by simp⟩
    by_cases hz : (ledS hs i).length = hs.length
    · simp [hz]
    · rw [decide_eq_false hz, decide_eq_false (by omega)]
  · rw [wp_mkL (sz_le (by have := List.length_filter_le (fun i : Nat => decide ((ledS hs i).length = hs.length)) (List.range hs.length); simp at this ⊢; omega))]
    unfold rootsL
    rw [List.filter_map, List.map_map]
    exact ⟨rfl, rfl⟩
theorem wp_p_heard : wp (m_Web_heard [.p (webP hs ms)] M) Q ↔ Q (.p (rowsP hs)) M := by
  unfold m_Web_heard b_Web_heard webP
  walk_at "ev"
  exact wp_slot slT_Web_own_heard rfl
theorem wp_p_marks : wp (m_Web_marks [.p (webP hs ms)] M) Q ↔ Q (.p (marksP ms)) M := by
  unfold m_Web_marks b_Web_marks webP
  walk_at "ev"
  exact wp_slot slT_Web_own_marks rfl
theorem wp_p_size : wp (m_Web_size [.p (webP hs ms)] M) Q ↔ Q (.p (.int hs.length)) M := by
  unfold m_Web_size b_Web_size webP
  walk_at "ev"
  exact wp_slot slT_Web_own_size rfl
theorem wp_p_signals : wp (m_Web_signals [.p (webP hs ms)] M) Q ↔ Q (.p (sigP hs ms)) M := by
  unfold m_Web_signals b_Web_signals webP
  walk_at "ev"
  exact wp_slot slT_Web_own_signals rfl
theorem wp_p_roots : wp (m_Web_roots [.p (webP hs ms)] M) Q ↔ Q (.p (.tup ((rootsL hs).map .int))) M := by
  unfold m_Web_roots b_Web_roots webP
  walk_at "ev"
  exact wp_slot slT_Web_own_roots rfl
theorem wp_p_is_marked : wp (m_Web_is_marked [.p (webP hs ms)] M) Q ↔ Q (.p (.bl (decide (0 < maxL ms)))) M := by
  unfold m_Web_is_marked b_Web_is_marked webP
  walk_at "ev"
  exact wp_slot slT_Web_own_is_marked rfl
theorem wp_s_pairs : wp (slotD (slT "own_pairs") (.p (webP hs ms)) M) Q ↔ Q (.p (pairsP hs)) M := wp_slot slT_Web_own_pairs rfl
theorem wp_s_size : wp (slotD (slT "own_size") (.p (webP hs ms)) M) Q ↔ Q (.p (.int hs.length)) M := wp_slot slT_Web_own_size rfl
theorem wp_s_signals : wp (slotD (slT "own_signals") (.p (webP hs ms)) M) Q ↔ Q (.p (sigP hs ms)) M := wp_slot slT_Web_own_signals rfl
theorem wp_s_heard : wp (slotD (slT "own_heard") (.p (webP hs ms)) M) Q ↔ Q (.p (rowsP hs)) M := wp_slot slT_Web_own_heard rfl
theorem wp_s_marks : wp (slotD (slT "own_marks") (.p (webP hs ms)) M) Q ↔ Q (.p (marksP ms)) M := wp_slot slT_Web_own_marks rfl
theorem wp_s_is_marked : wp (slotD (slT "own_is_marked") (.p (webP hs ms)) M) Q ↔ Q (.p (.bl (decide (0 < maxL ms)))) M := wp_slot slT_Web_own_is_marked rfl
theorem wp_len : wp (m_Web___len__ [.p (webP hs ms)] M) Q ↔ Q (.p (.int (pairsL hs).length)) M := by
  unfold m_Web___len__ b_Web___len__
  walk_at "ev"
  rw [wp_s_pairs]
  unfold pairsP
  walk_at "ev"
  simp only [List.length_map]
theorem wp_ownLen (h : HOk hs) : wp (ownLen "Web" m_Web___len__ [.p (webP hs ms)] M) Q ↔ Q (.p (.int (pairsL hs).length)) M := by
  have e : m_Web___len__ [.p (webP hs ms)] M = some (.ok (.p (.int (pairsL hs).length)), M) := wp_eq (wp_len.mpr ⟨rfl, rfl⟩)
  have hb : (pairsL hs).length ≤ 25 := by
    have : ∀ (ps : List (List Int × Nat)), (∀ p ∈ ps, p.1.length ≤ 5) → (ps.flatMap fun x => x.1.map fun o => (((x.2 : Nat) : Int), o)).length ≤ 5 * ps.length := by
      intro ps
      induction ps with
      | nil => intro _; simp
      | cons p ps ih =>
        intro hp
        have := ih fun q hq => hp q (by simp [hq])
        have := hp p (by simp)
        simp only [List.flatMap_cons, List.length_append, List.length_map, List.length_cons]
        omega
    have q := this hs.zipIdx fun p hp => h.short _ (List.mem_of_getElem? (mem_zipIdx hp))
    have hm := h.most
    rw [List.length_zipIdx] at q
    unfold pairsL
    omega
  refine wp_of ?_
  unfold ownLen
  simp only [insW, if_true, e]
  rw [if_pos (by omega)]
theorem w_require {v n : Nat} (h : v < n) (hn : n ≤ 1000) : wp (m_require_index [.p (.int v), .p (.int n)] M) Q ↔ Q (.p .non) M := by
  have e : isBt (.int v) 0 ((n : Int) - 1) = true := by
    rw [isBt_small (by omega) (by omega)]
    simp
    omega
  unfold m_require_index b_require_index
  walk_at "ev"
  rw [wp_of (ev_is_index okP_int), e]
  walk_at "ev"
  simp
theorem sig_at {t : Nat} (ht : t < hs.length) (hl : ms.length = hs.length) : (sigsL hs ms)[t]? = some (.tup [.tup (((withOwn hs).getD t []).map .int), .int (ms.getD t 0)]) := by
  have h1 : t < (withOwn hs).length := by simp [withOwn, ht]
  have h2 : t < ms.length := by omega
  simp [sigsL, List.getElem?_map, List.getElem?_zip_eq_some, h1, h2]
theorem wp_signal {t : Nat} (h : HOk hs) (ht : t < hs.length) (hl : ms.length = hs.length) : wp (m_Web_signal [.p (webP hs ms), .p (.int t)] M) Q ↔ Q (.p (.tup [.tup (((withOwn hs).getD t []).map .int), .int (ms.getD t 0)])) M := by
  have hm := h.most
  unfold m_Web_signal b_Web_signal
  walk_at "ev"
  rw [wp_s_size, w_require ht (by omega), wp_s_signals, show sigP hs ms = .tup (sigsL hs ms) from rfl, wp_ixT (sig_at ht hl)]
theorem wp_hears {t : Nat} (h : HOk hs) (ht : t < hs.length) (hl : ms.length = hs.length) : wp (m_Web_hears [.p (webP hs ms), .p (.int t)] M) Q ↔ Q (.p (.tup (((withOwn hs).getD t []).map .int))) M := by
  have hm := h.most
  unfold m_Web_hears b_Web_hears
  walk_at "ev"
  rw [wp_s_size, w_require ht (by omega), wp_s_signals, show sigP hs ms = .tup (sigsL hs ms) from rfl, wp_ixT (sig_at ht hl)]
  exact wp_ixT (v := 0) rfl
theorem wp_reached {t : Nat} (h : HOk hs) (ht : t < hs.length) : wp (m_Web_reached [.p (webP hs ms), .p (.int t)] M) Q ↔ Q (.p (.tup ((ledS hs t).map .int))) M := by
  have hm := h.most
  unfold m_Web_reached b_Web_reached
  walk_at "ev"
  rw [wp_s_size, w_require ht (by omega), wp_s_heard]
  walk_at "ev"
  rw [wo_reached h ht]
  walk_at "ev"
end
end DL

set_option maxHeartbeats 4000000
namespace DL
open PySem PySem.Spec PyProof.Rows L2
local macro_rules | `(tactic| walk_at "ev") => `(tactic| try simp only [↓wp_var0, ↓wp_varS, ↓wp_C, ↓wp_Op, ↓wp_Un, ↓wp_aNil, ↓wp_aCons, ↓wp_And, ↓wp_Or, ↓wp_If, ↓wp_Disp, ↓wp_Call, ↓wp_CallB, ↓wp_tCmp, ↓wp_bolD, ↓wp_Chain, ↓wp_tChn, ↓wp_tru, ↓wp_tNot, ↓wp_tAnd, ↓wp_tOr, ↓wp_tYes, ↓wp_Lc, ↓wp_Meth, ↓wp_Prop, ↓wp_Bm, ↓wp_Slice, ↓wp_oNone, ↓wp_oSome, ↓intK_i, ↓wp_aSeq, ↓seqQ_l, ↓seqQ_t, ↓wp_aEnum, ↓enmK_t, ↓enmK_l, ↓wp_aZip, ↓zipK_t, ↓zipK_l, ↓wp_Seq, ↓seqK_nx, ↓seqK_ret, ↓seqK_brk, ↓seqK_ct, ↓wp_Nop, ↓wp_Break, ↓wp_Cont, ↓wp_Ret, ↓wp_RetN, ↓wp_Never, ↓wp_Expr, ↓wp_sIf, ↓wp_AsgN, ↓wp_Par, ↓parK_2, ↓wp_For, ↓wp_Sub, ↓finK_ret, ↓finK_nx, ↓wp_fn1, ↓wp_fn2, ↓wp_fn3, ↓wp_fn4, ↓wp_lift2, ↓wp_lift1, ↓wp_look2, ↓wp_liftn1, ↓wp_liftn2, ↓wp_liftn3, ↓wp_notD, ↓wp_len_t, ↓wp_len_l, ↓wp_tuple_l, ↓wp_tuple_t, ↓wp_list_l, ↓wp_list_t, ↓wp_isN, ↓wp_notN, ↓wp_T0, ↓wp_T1, ↓wp_T2, ↓wp_T3, ↓wp_T4, ↓wp_T5, ↓wp_L0, ↓wp_L1, ↓wp_L2, ↓wp_L3, ↓wp_L4, ↓wp_L5, ↓wp_newP, ↓wo_one, ↓wo_two, ↓wo_some, ↓wo_lt, ↓wo_le, ↓wo_gt, ↓wo_ge, ↓wo_sub, ↓wo_neg, ↓wo_addI, ↓wo_abs, ↓wo_int, ↓wo_intB, ↓wo_max2, ↓wo_min2, ↓wo_all, ↓wo_any, ↓wo_sum, ↓wo_eqI, ↓wo_neI, ↓truD_e, bodyK_nx, bodyK_ct, bodyK_ret, bodyK_brk, List.replicate, Nat.reduceSub, List.set, wipeR_nil, wipeR_cons, putL_nil, putL_cons])
local macro_rules | `(tactic| walk_at "evA") => `(tactic| try simp only [↓wp_var0, ↓wp_varS, ↓wp_C, ↓wp_Op, ↓wp_Un, ↓wp_aNil, ↓wp_aCons, ↓wp_And, ↓wp_Or, ↓wp_If, ↓wp_Disp, ↓wp_Call, ↓wp_CallB, ↓wp_tCmp, ↓wp_bolD, ↓wp_Chain, ↓wp_tChn, ↓wp_tru, ↓wp_tNot, ↓wp_tAnd, ↓wp_tOr, ↓wp_tYes, ↓wp_Lc, ↓wp_Meth, ↓wp_Prop, ↓wp_Bm, ↓wp_Slice, ↓wp_oNone, ↓wp_oSome, ↓intK_i, ↓wp_aSeq, ↓seqQ_l, ↓seqQ_t, ↓wp_aEnum, ↓enmK_t, ↓enmK_l, ↓wp_aZip, ↓zipK_t, ↓zipK_l, ↓wp_Seq, ↓seqK_nx, ↓seqK_ret, ↓seqK_brk, ↓seqK_ct, ↓wp_Nop, ↓wp_Break, ↓wp_Cont, ↓wp_Ret, ↓wp_RetN, ↓wp_Never, ↓wp_Expr, ↓wp_sIf, ↓wp_AsgN, ↓wp_Par, ↓parK_2, ↓wp_For, ↓wp_Sub, ↓finK_ret, ↓finK_nx, ↓wp_fn1, ↓wp_fn2, ↓wp_fn3, ↓wp_fn4, ↓wp_lift2, ↓wp_lift1, ↓wp_look2, ↓wp_liftn1, ↓wp_liftn2, ↓wp_liftn3, ↓wp_notD, ↓wp_len_t, ↓wp_len_l, ↓wp_tuple_l, ↓wp_tuple_t, ↓wp_list_l, ↓wp_list_t, ↓wp_isN, ↓wp_notN, ↓wp_T0, ↓wp_T1, ↓wp_T2, ↓wp_T3, ↓wp_T4, ↓wp_T5, ↓wp_L0, ↓wp_L1, ↓wp_L2, ↓wp_L3, ↓wp_L4, ↓wp_L5, ↓wp_newP, ↓wo_one, ↓wo_two, ↓wo_some, ↓wo_lt, ↓wo_le, ↓wo_gt, ↓wo_ge, ↓wo_sub, ↓wo_neg, ↓wo_addI, ↓wo_abs, ↓wo_int, ↓wo_intB, ↓wo_max2, ↓wo_min2, ↓wo_all, ↓wo_any, ↓wo_sum, ↓wo_eqI, ↓wo_neI, ↓truD_e, bodyK_nx, bodyK_ct, bodyK_ret, bodyK_brk, List.replicate, Nat.reduceSub, List.set, wipeR_nil, wipeR_cons, putL_nil, putL_cons, ↓wo_modA, ↓wo_divA, ↓wo_mulA, ↓wo_addSA, ↓wo_addTA, ↓wo_addLA, ↓wo_strI, ↓wo_strS, ↓wo_fmtI, ↓wo_fmtS, ↓jsK_s, ↓wp_js0, ↓wp_js1, ↓wp_Joined, ↓wp_joinL, ↓isS_str, ↓wp_mkOA])
local macro_rules | `(tactic| walk_at "evs") => `(tactic| try simp only [↓wp_var0, ↓wp_varS, ↓wp_C, ↓wp_Op, ↓wp_Un, ↓wp_aNil, ↓wp_aCons, ↓wp_And, ↓wp_Or, ↓wp_If, ↓wp_Disp, ↓wp_Call, ↓wp_CallB, ↓wp_tCmp, ↓wp_bolD, ↓wp_Chain, ↓wp_tChn, ↓wp_tru, ↓wp_tNot, ↓wp_tAnd, ↓wp_tOr, ↓wp_tYes, ↓wp_Lc, ↓wp_Meth, ↓wp_Prop, ↓wp_Bm, ↓wp_Slice, ↓wp_oNone, ↓wp_oSome, ↓intK_i, ↓wp_aSeq, ↓seqQ_l, ↓seqQ_t, ↓wp_aEnum, ↓enmK_t, ↓enmK_l, ↓wp_aZip, ↓zipK_t, ↓zipK_l, ↓seqK_ret, ↓seqK_brk, ↓seqK_ct, ↓wp_Nop, ↓wp_Break, ↓wp_Cont, ↓wp_Ret, ↓wp_RetN, ↓wp_Never, ↓wp_Expr, ↓wp_sIf, ↓wp_AsgN, ↓wp_Par, ↓parK_2, ↓wp_For, ↓wp_Sub, ↓finK_ret, ↓finK_nx, ↓wp_fn1, ↓wp_fn2, ↓wp_fn3, ↓wp_fn4, ↓wp_lift2, ↓wp_lift1, ↓wp_look2, ↓wp_liftn1, ↓wp_liftn2, ↓wp_liftn3, ↓wp_notD, ↓wp_len_t, ↓wp_len_l, ↓wp_tuple_l, ↓wp_tuple_t, ↓wp_list_l, ↓wp_list_t, ↓wp_isN, ↓wp_notN, ↓wp_T0, ↓wp_T1, ↓wp_T2, ↓wp_T3, ↓wp_T4, ↓wp_T5, ↓wp_L0, ↓wp_L1, ↓wp_L2, ↓wp_L3, ↓wp_L4, ↓wp_L5, ↓wp_newP, ↓wo_one, ↓wo_two, ↓wo_some, ↓wo_lt, ↓wo_le, ↓wo_gt, ↓wo_ge, ↓wo_sub, ↓wo_neg, ↓wo_addI, ↓wo_abs, ↓wo_int, ↓wo_intB, ↓wo_max2, ↓wo_min2, ↓wo_all, ↓wo_any, ↓wo_sum, ↓wo_eqI, ↓wo_neI, ↓truD_e, bodyK_nx, bodyK_ct, bodyK_ret, bodyK_brk, List.replicate, Nat.reduceSub, List.set, wipeR_nil, wipeR_cons, putL_nil, putL_cons])
local macro_rules | `(tactic| walk_at "evsA") => `(tactic| try simp only [↓wp_var0, ↓wp_varS, ↓wp_C, ↓wp_Op, ↓wp_Un, ↓wp_aNil, ↓wp_aCons, ↓wp_And, ↓wp_Or, ↓wp_If, ↓wp_Disp, ↓wp_Call, ↓wp_CallB, ↓wp_tCmp, ↓wp_bolD, ↓wp_Chain, ↓wp_tChn, ↓wp_tru, ↓wp_tNot, ↓wp_tAnd, ↓wp_tOr, ↓wp_tYes, ↓wp_Lc, ↓wp_Meth, ↓wp_Prop, ↓wp_Bm, ↓wp_Slice, ↓wp_oNone, ↓wp_oSome, ↓intK_i, ↓wp_aSeq, ↓seqQ_l, ↓seqQ_t, ↓wp_aEnum, ↓enmK_t, ↓enmK_l, ↓wp_aZip, ↓zipK_t, ↓zipK_l, ↓seqK_ret, ↓seqK_brk, ↓seqK_ct, ↓wp_Nop, ↓wp_Break, ↓wp_Cont, ↓wp_Ret, ↓wp_RetN, ↓wp_Never, ↓wp_Expr, ↓wp_sIf, ↓wp_AsgN, ↓wp_Par, ↓parK_2, ↓wp_For, ↓wp_Sub, ↓finK_ret, ↓finK_nx, ↓wp_fn1, ↓wp_fn2, ↓wp_fn3, ↓wp_fn4, ↓wp_lift2, ↓wp_lift1, ↓wp_look2, ↓wp_liftn1, ↓wp_liftn2, ↓wp_liftn3, ↓wp_notD, ↓wp_len_t, ↓wp_len_l, ↓wp_tuple_l, ↓wp_tuple_t, ↓wp_list_l, ↓wp_list_t, ↓wp_isN, ↓wp_notN, ↓wp_T0, ↓wp_T1, ↓wp_T2, ↓wp_T3, ↓wp_T4, ↓wp_T5, ↓wp_L0, ↓wp_L1, ↓wp_L2, ↓wp_L3, ↓wp_L4, ↓wp_L5, ↓wp_newP, ↓wo_one, ↓wo_two, ↓wo_some, ↓wo_lt, ↓wo_le, ↓wo_gt, ↓wo_ge, ↓wo_sub, ↓wo_neg, ↓wo_addI, ↓wo_abs, ↓wo_int, ↓wo_intB, ↓wo_max2, ↓wo_min2, ↓wo_all, ↓wo_any, ↓wo_sum, ↓wo_eqI, ↓wo_neI, ↓truD_e, bodyK_nx, bodyK_ct, bodyK_ret, bodyK_brk, List.replicate, Nat.reduceSub, List.set, wipeR_nil, wipeR_cons, putL_nil, putL_cons, ↓wo_modA, ↓wo_divA, ↓wo_mulA, ↓wo_addSA, ↓wo_addTA, ↓wo_addLA, ↓wo_strI, ↓wo_strS, ↓wo_fmtI, ↓wo_fmtS, ↓jsK_s, ↓wp_js0, ↓wp_js1, ↓wp_Joined, ↓wp_joinL, ↓isS_str, ↓wp_mkOA])
section
variable {M : Mem} {Q : D → Mem → Prop} {hs : List (List Int)} {ms : List Int}
def numS (i : Int) : Str := Str.ofString (toString i)
def pairS (p : Int × Int) : Str := numS p.1 ++ " hears " ++ numS p.2
def toldS (hs : List (List Int)) : Str := if pairsL hs = [] then "nobody hears" else Txt.join ", " ((pairsL hs).map pairS)
def endS (ms : List Int) : Str := if 0 < maxL ms then "; marks " ++ Txt.join " " (ms.map numS) else ""
def textS (hs : List (List Int)) (ms : List Int) : Str := "web of " ++ numS hs.length ++ " threads: " ++ toldS hs ++ endS ms
theorem lit_len (s : String) (n : Nat) (h : s.length = n := by decide) : (Str.ofString s).length = n := by rw [PyProof.Rows.ofString_len, h]
theorem pairs_rng (h : HOk hs) {p : Int × Int} (hp : p ∈ pairsL hs) : 0 ≤ p.1 ∧ p.1 < 5 ∧ 0 ≤ p.2 ∧ p.2 < 5 := by
  unfold pairsL at hp
  obtain ⟨x, hx, hp⟩ := List.mem_flatMap.mp hp
  obtain ⟨o, ho, rfl⟩ := List.mem_map.mp hp
  have hg := mem_zipIdx hx
  have := h.rng _ (List.mem_of_getElem? hg) o ho
  have := (List.getElem?_eq_some_iff.mp hg).1
  have := h.most
  simp only
  omega
theorem pairs_len (h : HOk hs) : (pairsL hs).length ≤ 25 := by
  have : ∀ (ps : List (List Int × Nat)), (∀ p ∈ ps, p.1.length ≤ 5) → (ps.flatMap fun x => x.1.map fun o => (((x.2 : Nat) : Int), o)).length ≤ 5 * ps.length := by
    intro ps
    induction ps with
    | nil => intro _; simp
    | cons p ps ih =>
      intro hp
      have := ih fun q hq => hp q (by simp [hq])
      have := hp p (by simp)
      simp only [List.flatMap_cons, List.length_append, List.length_map, List.length_cons]
      omega
  have q := this hs.zipIdx fun p hp => h.short _ (List.mem_of_getElem? (mem_zipIdx hp))
  have hm := h.most
  rw [List.length_zipIdx] at q
  unfold pairsL
  omega
theorem pairS_len (p : Int × Int) (h : 0 ≤ p.1 ∧ p.1 < 5 ∧ 0 ≤ p.2 ∧ p.2 < 5) : (pairS p).length ≤ 25 ∧ 0 < (pairS p).length := by
  unfold pairS numS
  rw [str_len_app, str_len_app, lit_len " hears " 7]
  have := num_len (i := p.1) (by omega) (by omega)
  have := num_len (i := p.2) (by omega) (by omega)
  omega
theorem sum_le {α : Type} {f : α → Nat} {k : Nat} : ∀ {xs : List α}, (∀ x ∈ xs, f x ≤ k) → (xs.map f).sum ≤ xs.length * k
  | [], _ => by simp
  | x :: xs, h => by
    have := sum_le (xs := xs) fun y hy => h y (by simp [hy])
    have := h x (by simp)
    simp only [List.map_cons, List.sum_cons, List.length_cons, Nat.add_mul]
    omega
theorem numS_ok (i : Int) : sOk (numS i) = true := sOk_of _
theorem pairS_ok (p : Int × Int) : sOk (pairS p) = true := sOk_app (sOk_app (numS_ok _) (sOk_of _)) (numS_ok _)
theorem told_sum (h : HOk hs) : (((pairsL hs).map pairS).map (·.length)).sum + ((pairsL hs).map pairS).length * (Str.ofString ", ").length ≤ 1000 := by
  rw [lit_len ", " 2, List.map_map]
  have := sum_le (f := (fun x : Str => x.length) ∘ pairS) (k := 25) (xs := pairsL hs) fun p hp => (pairS_len p (pairs_rng h hp)).1
  have := pairs_len h
  simp only [List.length_map]
  omega
theorem marks_sum (h : MOk hs.length ms) (hh : HOk hs) : ((ms.map numS).map (·.length)).sum + (ms.map numS).length * (Str.ofString " ").length ≤ 100 := by
  rw [lit_len " " 1, List.map_map]
  have := sum_le (f := (fun x : Str => x.length) ∘ numS) (k := 9) (xs := ms) fun p hp => by
    have := h.rng p hp
    exact num_len (by omega) (by omega)
  have := h.len
  have := hh.most
  simp only [List.length_map]
  omega
theorem told_len (h : HOk hs) : (toldS hs).length ≤ 1000 := by
  unfold toldS
  split
  · rw [lit_len "nobody hears" 12]; omega
  · have := told_sum h
    have := join_len (a := Str.ofString ", ") (ys := (pairsL hs).map pairS)
    omega
theorem end_len (hm : MOk hs.length ms) (h : HOk hs) : (endS ms).length ≤ 200 := by
  unfold endS
  split
  · have := marks_sum hm h
    have := join_len (a := Str.ofString " ") (ys := ms.map numS)
    rw [str_len_app, lit_len "; marks " 8]
    omega
  · rw [lit_len "" 0]; omega
theorem text_ok : sOk (textS hs ms) = true := by
  have h1 : sOk (toldS hs) = true := by
    unfold toldS
    split
    · exact sOk_of _
    · exact sOk_join (sOk_of _) fun y hy => by
        obtain ⟨p, _, rfl⟩ := List.mem_map.mp hy
        exact pairS_ok p
  have h2 : sOk (endS ms) = true := by
    unfold endS
    split
    · exact sOk_app (sOk_of _) (sOk_join (sOk_of _) fun y hy => by
        obtain ⟨p, _, rfl⟩ := List.mem_map.mp hy
        exact numS_ok p)
    · exact sOk_of _
  exact sOk_app (sOk_app (sOk_app (sOk_app (sOk_of _) (numS_ok _)) (sOk_of _)) h1) h2
theorem wp_text (h : HOk hs) (hm : MOk hs.length ms) : wp (m__law_text [.p (rowsP hs), .p (marksP ms)] M) Q ↔ Q (.p (.str (textS hs ms))) M := by
  suffices key : wp (m__law_text [.p (rowsP hs), .p (marksP ms)] M) fun d M' => d = .p (.str (textS hs ms)) ∧ M' = M from wp_of (wp_eq key)
  unfold m__law_text b__law_text
  walk_at "evA"
  rw [show rowsP hs = .tup (hs.map fun r => .tup (r.map .int)) from rfl, enmK_t, enumP_map]
  have hb : ∀ (pre post : List (List Int × Nat)), hs.zipIdx = pre ++ post → (pre.flatMap fun x => x.1.map fun o => pairS (((x.2 : Nat) : Int), o)).length ≤ 5 * pre.length := fun pre post e => by
    have : ∀ (ps : List (List Int × Nat)), (∀ p ∈ ps, p.1.length ≤ 5) → (ps.flatMap fun x => x.1.map fun o => pairS (((x.2 : Nat) : Int), o)).length ≤ 5 * ps.length := by
      intro ps
      induction ps with
      | nil => intro _; simp
      | cons p ps ih =>
        intro hp
        have := ih fun q hq => hp q (by simp [hq])
        have := hp p (by simp)
        simp only [List.flatMap_cons, List.length_append, List.length_map, List.length_cons]
        omega
    exact this pre fun p hp => h.short _ (List.mem_of_getElem? (mem_zipIdx (by rw [e]; simp [hp])))
  refine wp_for hs.zipIdx (fun pre ρ M' => M' = M ∧ ∃ x5 x6 : Option D, ρ = [some (.p (rowsP hs)), some (.p (marksP ms)), some (.p (.lst ((pre.flatMap fun x => x.1.map fun o => pairS (((x.2 : Nat) : Int), o)).map .str))), none, none, x5, x6, none, none]) ⟨rfl, none, none, rfl⟩ ?_ ?_
  · rintro pre x post e ρ M' ⟨rfl, x5, x6, rfl⟩
    have hx : x ∈ hs.zipIdx := by rw [e]; simp
    have hg := mem_zipIdx hx
    have hr := h.rng _ (List.mem_of_getElem? hg)
    have hsh := h.short _ (List.mem_of_getElem? hg)
    have hlt := (List.getElem?_eq_some_iff.mp hg).1
    have hm5 := h.most
    have hpl : pre.length ≤ 5 := by
      have := congrArg List.length e
      simp at this
      omega
    refine ⟨_, rfl, ?_⟩
    walk_at "evA"
    rw [mapPI]
    refine wp_lcm x.1 (fun o => .str (pairS (((x.2 : Nat) : Int), o))) (fun o ho => ⟨_, rfl, ?_⟩) ?_
    · have := hr o ho
      have l1 := num_len (i := ((x.2 : Nat) : Int)) (by omega) (by omega)
      have l2 := num_len (i := o) (by omega) (by omega)
      walk_at "evA"
      refine ⟨num_log (by omega) (by omega), ?_, num_log (by omega) (by omega), ?_, trivial, rfl⟩
      · rw [lit_len " hears " 7]; exact sz_le (by omega)
      · rw [str_len_app, lit_len " hears " 7]; exact sz_le (by omega)
    · rw [wp_mkL (by simp; exact sz_le (by omega))]
      walk_at "evA"
      refine ⟨?_, by trivial, some (.p (.int ((x.2 : Nat) : Int))), some (.p (.tup (x.1.map .int))), ?_⟩
      · have := hb pre _ e
        simp only [List.length_map]
        exact sz_le (by omega)
      · simp [List.map_flatMap, List.flatMap_append]
  · rintro ρ M' ⟨rfl, x5, x6, rfl⟩
    have eP : (hs.zipIdx.flatMap fun x => x.1.map fun o => pairS (((x.2 : Nat) : Int), o)) = (pairsL hs).map pairS := by
      unfold pairsL
      rw [List.map_flatMap]
      simp only [List.map_map]
      rfl
    rw [eP, seqK_nx, wp_Seq]
    have hP : wo (neP (P.lst (((pairsL hs).map pairS).map P.str)) (P.lst [])) fun c => c = .bl (!decide (pairsL hs = [])) := by
      rw [wo_of (neP_dat (d := 1) (by
        show datL 0 _ = true
        exact dat_map fun y hy => by
          obtain ⟨p, _, rfl⟩ := List.mem_map.mp hy
          exact pairS_ok p) (by simp [datB, datL]))]
      cases hp : pairsL hs with
      | nil => simp [toPy, toPyL, PyData.eqv, PyData.eqvAll]
      | cons p r => simp [toPy, toPyL, PyData.eqv, PyData.eqvAll]
    refine asg_val (.p (.str (toldS hs))) ?_ ?_
    · walk_at "evA"
      obtain ⟨c, ec, rfl⟩ := hP
      rw [wo_of ec]
      walk_at "evA"
      have := told_sum h
      constructor
      · intro hc
        refine ⟨trivial, by omega, ?_, trivial⟩
        unfold toldS
        rw [if_neg (by simpa using hc)]
      · intro hc
        refine ⟨?_, trivial⟩
        unfold toldS
        rw [if_pos (by simpa using hc)]
    rw [seqK_nx, wp_Seq]
    refine asg_val (.p (.str (endS ms))) ?_ ?_
    · walk_at "evA"
      have hne : ms ≠ [] := max_pos hm h.pos
      rw [show marksP ms = .tup (ms.map .int) from rfl, wo_of (maxF_t hne)]
      walk_at "evA"
      constructor
      · intro hc
        refine ⟨trivial, ?_⟩
        rw [mapPI]
        refine wp_lcm ms (fun m => .str (numS m)) (fun m hmm => ⟨_, rfl, ?_⟩) ?_
        · walk_at "evA"
          have := hm.rng m hmm
          exact ⟨num_log (by omega) (by omega), trivial, rfl⟩
        · have hl := hm.len
          have h5 := h.most
          rw [wp_mkL (by simp; exact sz_le (by omega)), show ms.map (fun m => P.str (numS m)) = (ms.map numS).map .str by simp]
          walk_at "evA"
          have := marks_sum hm h
          have := join_len (a := Str.ofString " ") (ys := ms.map numS)
          refine ⟨by omega, ?_, ?_, trivial⟩
          · rw [lit_len "; marks " 8]; exact sz_le (by omega)
          · unfold endS
            rw [if_pos (by simpa using hc)]
      · intro hc
        refine ⟨?_, trivial⟩
        unfold endS
        rw [if_neg (by simpa using hc)]
    walk_at "evA"
    rw [wp_len_rows]
    walk_at "evA"
    have h5 := h.most
    have h1 := num_len (i := (hs.length : Int)) (by omega) (by omega)
    have h2 := told_len h
    have h3 := end_len hm h
    refine ⟨num_log (by omega) (by omega), ?_, ?_, ?_, ?_, rfl, trivial⟩
    · rw [lit_len "web of " 7]; exact sz_le (by omega)
    · rw [str_len_app, lit_len "web of " 7, lit_len " threads: " 10]; exact sz_le (by omega)
    · rw [str_len_app, str_len_app, lit_len "web of " 7, lit_len " threads: " 10]; exact sz_le (by omega)
    · rw [str_len_app, str_len_app, str_len_app, lit_len "web of " 7, lit_len " threads: " 10]; exact sz_le (by omega)
end
end DL

set_option maxHeartbeats 4000000
namespace DL
open PySem PySem.Spec PyProof.Rows L2
local macro_rules | `(tactic| walk_at "ev") => `(tactic| try simp only [↓wp_var0, ↓wp_varS, ↓wp_C, ↓wp_Op, ↓wp_Un, ↓wp_aNil, ↓wp_aCons, ↓wp_And, ↓wp_Or, ↓wp_If, ↓wp_Disp, ↓wp_Call, ↓wp_CallB, ↓wp_tCmp, ↓wp_bolD, ↓wp_Chain, ↓wp_tChn, ↓wp_tru, ↓wp_tNot, ↓wp_tAnd, ↓wp_tOr, ↓wp_tYes, ↓wp_Lc, ↓wp_Meth, ↓wp_Prop, ↓wp_Bm, ↓wp_Slice, ↓wp_oNone, ↓wp_oSome, ↓intK_i, ↓wp_aSeq, ↓seqQ_l, ↓seqQ_t, ↓wp_aEnum, ↓enmK_t, ↓enmK_l, ↓wp_aZip, ↓zipK_t, ↓zipK_l, ↓wp_Seq, ↓seqK_nx, ↓seqK_ret, ↓seqK_brk, ↓seqK_ct, ↓wp_Nop, ↓wp_Break, ↓wp_Cont, ↓wp_Ret, ↓wp_RetN, ↓wp_Never, ↓wp_Expr, ↓wp_sIf, ↓wp_AsgN, ↓wp_Par, ↓parK_2, ↓wp_For, ↓wp_Sub, ↓finK_ret, ↓finK_nx, ↓wp_fn1, ↓wp_fn2, ↓wp_fn3, ↓wp_fn4, ↓wp_lift2, ↓wp_lift1, ↓wp_look2, ↓wp_liftn1, ↓wp_liftn2, ↓wp_liftn3, ↓wp_notD, ↓wp_len_t, ↓wp_len_l, ↓wp_tuple_l, ↓wp_tuple_t, ↓wp_list_l, ↓wp_list_t, ↓wp_isN, ↓wp_notN, ↓wp_T0, ↓wp_T1, ↓wp_T2, ↓wp_T3, ↓wp_T4, ↓wp_T5, ↓wp_L0, ↓wp_L1, ↓wp_L2, ↓wp_L3, ↓wp_L4, ↓wp_L5, ↓wp_newP, ↓wo_one, ↓wo_two, ↓wo_some, ↓wo_lt, ↓wo_le, ↓wo_gt, ↓wo_ge, ↓wo_sub, ↓wo_neg, ↓wo_addI, ↓wo_abs, ↓wo_int, ↓wo_intB, ↓wo_max2, ↓wo_min2, ↓wo_all, ↓wo_any, ↓wo_sum, ↓wo_eqI, ↓wo_neI, ↓truD_e, bodyK_nx, bodyK_ct, bodyK_ret, bodyK_brk, List.replicate, Nat.reduceSub, List.set, wipeR_nil, wipeR_cons, putL_nil, putL_cons])
local macro_rules | `(tactic| walk_at "evA") => `(tactic| try simp only [↓wp_var0, ↓wp_varS, ↓wp_C, ↓wp_Op, ↓wp_Un, ↓wp_aNil, ↓wp_aCons, ↓wp_And, ↓wp_Or, ↓wp_If, ↓wp_Disp, ↓wp_Call, ↓wp_CallB, ↓wp_tCmp, ↓wp_bolD, ↓wp_Chain, ↓wp_tChn, ↓wp_tru, ↓wp_tNot, ↓wp_tAnd, ↓wp_tOr, ↓wp_tYes, ↓wp_Lc, ↓wp_Meth, ↓wp_Prop, ↓wp_Bm, ↓wp_Slice, ↓wp_oNone, ↓wp_oSome, ↓intK_i, ↓wp_aSeq, ↓seqQ_l, ↓seqQ_t, ↓wp_aEnum, ↓enmK_t, ↓enmK_l, ↓wp_aZip, ↓zipK_t, ↓zipK_l, ↓wp_Seq, ↓seqK_nx, ↓seqK_ret, ↓seqK_brk, ↓seqK_ct, ↓wp_Nop, ↓wp_Break, ↓wp_Cont, ↓wp_Ret, ↓wp_RetN, ↓wp_Never, ↓wp_Expr, ↓wp_sIf, ↓wp_AsgN, ↓wp_Par, ↓parK_2, ↓wp_For, ↓wp_Sub, ↓finK_ret, ↓finK_nx, ↓wp_fn1, ↓wp_fn2, ↓wp_fn3, ↓wp_fn4, ↓wp_lift2, ↓wp_lift1, ↓wp_look2, ↓wp_liftn1, ↓wp_liftn2, ↓wp_liftn3, ↓wp_notD, ↓wp_len_t, ↓wp_len_l, ↓wp_tuple_l, ↓wp_tuple_t, ↓wp_list_l, ↓wp_list_t, ↓wp_isN, ↓wp_notN, ↓wp_T0, ↓wp_T1, ↓wp_T2, ↓wp_T3, ↓wp_T4, ↓wp_T5, ↓wp_L0, ↓wp_L1, ↓wp_L2, ↓wp_L3, ↓wp_L4, ↓wp_L5, ↓wp_newP, ↓wo_one, ↓wo_two, ↓wo_some, ↓wo_lt, ↓wo_le, ↓wo_gt, ↓wo_ge, ↓wo_sub, ↓wo_neg, ↓wo_addI, ↓wo_abs, ↓wo_int, ↓wo_intB, ↓wo_max2, ↓wo_min2, ↓wo_all, ↓wo_any, ↓wo_sum, ↓wo_eqI, ↓wo_neI, ↓truD_e, bodyK_nx, bodyK_ct, bodyK_ret, bodyK_brk, List.replicate, Nat.reduceSub, List.set, wipeR_nil, wipeR_cons, putL_nil, putL_cons, ↓wo_modA, ↓wo_divA, ↓wo_mulA, ↓wo_addSA, ↓wo_addTA, ↓wo_addLA, ↓wo_strI, ↓wo_strS, ↓wo_fmtI, ↓wo_fmtS, ↓jsK_s, ↓wp_js0, ↓wp_js1, ↓wp_Joined, ↓wp_joinL, ↓isS_str, ↓wp_mkOA])
local macro_rules | `(tactic| walk_at "evs") => `(tactic| try simp only [↓wp_var0, ↓wp_varS, ↓wp_C, ↓wp_Op, ↓wp_Un, ↓wp_aNil, ↓wp_aCons, ↓wp_And, ↓wp_Or, ↓wp_If, ↓wp_Disp, ↓wp_Call, ↓wp_CallB, ↓wp_tCmp, ↓wp_bolD, ↓wp_Chain, ↓wp_tChn, ↓wp_tru, ↓wp_tNot, ↓wp_tAnd, ↓wp_tOr, ↓wp_tYes, ↓wp_Lc, ↓wp_Meth, ↓wp_Prop, ↓wp_Bm, ↓wp_Slice, ↓wp_oNone, ↓wp_oSome, ↓intK_i, ↓wp_aSeq, ↓seqQ_l, ↓seqQ_t, ↓wp_aEnum, ↓enmK_t, ↓enmK_l, ↓wp_aZip, ↓zipK_t, ↓zipK_l, ↓seqK_ret, ↓seqK_brk, ↓seqK_ct, ↓wp_Nop, ↓wp_Break, ↓wp_Cont, ↓wp_Ret, ↓wp_RetN, ↓wp_Never, ↓wp_Expr, ↓wp_sIf, ↓wp_AsgN, ↓wp_Par, ↓parK_2, ↓wp_For, ↓wp_Sub, ↓finK_ret, ↓finK_nx, ↓wp_fn1, ↓wp_fn2, ↓wp_fn3, ↓wp_fn4, ↓wp_lift2, ↓wp_lift1, ↓wp_look2, ↓wp_liftn1, ↓wp_liftn2, ↓wp_liftn3, ↓wp_notD, ↓wp_len_t, ↓wp_len_l, ↓wp_tuple_l, ↓wp_tuple_t, ↓wp_list_l, ↓wp_list_t, ↓wp_isN, ↓wp_notN, ↓wp_T0, ↓wp_T1, ↓wp_T2, ↓wp_T3, ↓wp_T4, ↓wp_T5, ↓wp_L0, ↓wp_L1, ↓wp_L2, ↓wp_L3, ↓wp_L4, ↓wp_L5, ↓wp_newP, ↓wo_one, ↓wo_two, ↓wo_some, ↓wo_lt, ↓wo_le, ↓wo_gt, ↓wo_ge, ↓wo_sub, ↓wo_neg, ↓wo_addI, ↓wo_abs, ↓wo_int, ↓wo_intB, ↓wo_max2, ↓wo_min2, ↓wo_all, ↓wo_any, ↓wo_sum, ↓wo_eqI, ↓wo_neI, ↓truD_e, bodyK_nx, bodyK_ct, bodyK_ret, bodyK_brk, List.replicate, Nat.reduceSub, List.set, wipeR_nil, wipeR_cons, putL_nil, putL_cons])
local macro_rules | `(tactic| walk_at "evsA") => `(tactic| try simp only [↓wp_var0, ↓wp_varS, ↓wp_C, ↓wp_Op, ↓wp_Un, ↓wp_aNil, ↓wp_aCons, ↓wp_And, ↓wp_Or, ↓wp_If, ↓wp_Disp, ↓wp_Call, ↓wp_CallB, ↓wp_tCmp, ↓wp_bolD, ↓wp_Chain, ↓wp_tChn, ↓wp_tru, ↓wp_tNot, ↓wp_tAnd, ↓wp_tOr, ↓wp_tYes, ↓wp_Lc, ↓wp_Meth, ↓wp_Prop, ↓wp_Bm, ↓wp_Slice, ↓wp_oNone, ↓wp_oSome, ↓intK_i, ↓wp_aSeq, ↓seqQ_l, ↓seqQ_t, ↓wp_aEnum, ↓enmK_t, ↓enmK_l, ↓wp_aZip, ↓zipK_t, ↓zipK_l, ↓seqK_ret, ↓seqK_brk, ↓seqK_ct, ↓wp_Nop, ↓wp_Break, ↓wp_Cont, ↓wp_Ret, ↓wp_RetN, ↓wp_Never, ↓wp_Expr, ↓wp_sIf, ↓wp_AsgN, ↓wp_Par, ↓parK_2, ↓wp_For, ↓wp_Sub, ↓finK_ret, ↓finK_nx, ↓wp_fn1, ↓wp_fn2, ↓wp_fn3, ↓wp_fn4, ↓wp_lift2, ↓wp_lift1, ↓wp_look2, ↓wp_liftn1, ↓wp_liftn2, ↓wp_liftn3, ↓wp_notD, ↓wp_len_t, ↓wp_len_l, ↓wp_tuple_l, ↓wp_tuple_t, ↓wp_list_l, ↓wp_list_t, ↓wp_isN, ↓wp_notN, ↓wp_T0, ↓wp_T1, ↓wp_T2, ↓wp_T3, ↓wp_T4, ↓wp_T5, ↓wp_L0, ↓wp_L1, ↓wp_L2, ↓wp_L3, ↓wp_L4, ↓wp_L5, ↓wp_newP, ↓wo_one, ↓wo_two, ↓wo_some, ↓wo_lt, ↓wo_le, ↓wo_gt, ↓wo_ge, ↓wo_sub, ↓wo_neg, ↓wo_addI, ↓wo_abs, ↓wo_int, ↓wo_intB, ↓wo_max2, ↓wo_min2, ↓wo_all, ↓wo_any, ↓wo_sum, ↓wo_eqI, ↓wo_neI, ↓truD_e, bodyK_nx, bodyK_ct, bodyK_ret, bodyK_brk, List.replicate, Nat.reduceSub, List.set, wipeR_nil, wipeR_cons, putL_nil, putL_cons, ↓wo_modA, ↓wo_divA, ↓wo_mulA, ↓wo_addSA, ↓wo_addTA, ↓wo_addLA, ↓wo_strI, ↓wo_strS, ↓wo_fmtI, ↓wo_fmtS, ↓jsK_s, ↓wp_js0, ↓wp_js1, ↓wp_Joined, ↓wp_joinL, ↓isS_str, ↓wp_mkOA])
section
variable {M : Mem} {Q : D → Mem → Prop} {hs : List (List Int)} {ms : List Int}
theorem wp_str (h : HOk hs) (hm : MOk hs.length ms) : wp (m_Web___str__ [.p (webP hs ms)] M) Q ↔ Q (.p (.str (textS hs ms))) M := by
  suffices key : wp (m_Web___str__ [.p (webP hs ms)] M) fun d M' => d = .p (.str (textS hs ms)) ∧ M' = M from wp_of (wp_eq key)
  have hsum := told_sum h
  have hmsum := marks_sum hm h
  have h5 := h.most
  have hl := hm.len
  unfold m_Web___str__ b_Web___str__
  rw [wp_fn1, wp_Seq]
  refine asg_val (.p (.str (Txt.join ", " ((pairsL hs).map pairS)))) ?_ ?_
  · walk_at "evA"
    refine ⟨by trivial, ?_⟩
    rw [wp_s_pairs]
    unfold pairsP
    walk_at "evA"
    rw [List.map_map]
    refine wp_lcm (pairsL hs) (fun p => .str (pairS p)) (fun p hp => ⟨_, rfl, ?_⟩) ?_
    · have hr := pairs_rng h hp
      have l1 := num_len (i := p.1) (by omega) (by omega)
      have l2 := num_len (i := p.2) (by omega) (by omega)
      walk_at "evA"
      refine ⟨num_log (by omega) (by omega), ?_, ?_, num_log (by omega) (by omega), ?_, trivial, ?_⟩
      · rw [app_empty]; exact sz_le (by omega)
      · rw [app_empty, str_len_app, lit_len " hears " 7]; exact sz_le (by omega)
      · rw [app_empty, str_len_app, str_len_app, lit_len " hears " 7]; exact sz_le (by omega)
      · rw [app_empty]; rfl
    · have := pairs_len h
      rw [wp_mkL (by simp; exact sz_le (by omega)), show (pairsL hs).map (fun p => P.str (pairS p)) = ((pairsL hs).map pairS).map .str by simp]
      walk_at "evA"
      exact ⟨by omega, trivial, trivial⟩
  rw [seqK_nx, wp_Seq]
  refine asg_val (.p (.str (endS ms))) ?_ ?_
  · walk_at "evA"
    rw [wp_s_is_marked]
    walk_at "evA"
    constructor
    · intro hc
      rw [show (Str.empty ++ Str.ofString "; marks ") = Str.ofString "; marks " from app_empty _]
      refine ⟨by rw [lit_len "; marks " 8]; exact sz_le (by omega), trivial, ?_⟩
      rw [wp_s_marks]
      unfold marksP
      walk_at "evA"
      rw [mapPI]
      refine wp_lcm ms (fun m => .str (numS m)) (fun m hmm => ⟨_, rfl, ?_⟩) ?_
      · walk_at "evA"
        have := hm.rng m hmm
        exact ⟨num_log (by omega) (by omega), trivial, rfl⟩
      · rw [wp_mkL (by simp; exact sz_le (by omega)), show ms.map (fun m => P.str (numS m)) = (ms.map numS).map .str by simp]
        walk_at "evA"
        have := join_len (a := Str.ofString " ") (ys := ms.map numS)
        refine ⟨by omega, sz_le (by omega), ?_, ?_, trivial⟩
        · rw [str_len_app, lit_len "; marks " 8]; exact sz_le (by omega)
        · unfold endS
          rw [if_pos (by simpa using hc)]
    · intro hc
      refine ⟨?_, trivial⟩
      unfold endS
      rw [if_neg (by simpa using hc)]
  have hj := join_len (a := Str.ofString ", ") (ys := (pairsL hs).map pairS)
  rw [seqK_nx, wp_Ret]
  have h1 := num_len (i := (hs.length : Int)) (by omega) (by omega)
  have h2 := told_len h
  have h3 := end_len hm h
  simp only [List.set, List.replicate, Nat.reduceSub]
  rw [wp_Joined, wp_js1, wp_C, jsK_s, app_empty]
  refine ⟨by rw [lit_len "web of " 7]; exact sz_le (by omega), ?_⟩
  rw [wp_js1, wp_Un, wp_Un, wp_var0, wp_s_size]
  walk_at "evA"
  refine ⟨num_log (by omega) (by omega), by rw [str_len_app, lit_len "web of " 7]; exact sz_le (by omega), by rw [str_len_app, str_len_app, lit_len "web of " 7, lit_len " threads: " 10]; exact sz_le (by omega), ?_⟩
  rw [wo_neS (sOk_join (sOk_of _) fun y hy => by
      obtain ⟨p, _, rfl⟩ := List.mem_map.mp hy
      exact pairS_ok p) (sOk_of _)]
  walk_at "evA"
  have hemp := join_empty (a := Str.ofString ", ") (ys := (pairsL hs).map pairS) fun y hy => by
    obtain ⟨p, hp, rfl⟩ := List.mem_map.mp hy
    exact (pairS_len p (pairs_rng h hp)).2
  constructor
  · intro hc
    have hp : ¬ pairsL hs = [] := fun z => by
      have := hemp.mpr (by rw [z]; rfl)
      simp [this] at hc
    have ht : Txt.join (Str.ofString ", ") ((pairsL hs).map pairS) = toldS hs := by
      unfold toldS
      rw [if_neg hp]
    rw [ht]
    refine ⟨sz_le (by omega), ?_, sz_le (by omega), ?_, rfl, trivial⟩
    · rw [str_len_app, str_len_app, str_len_app, lit_len "web of " 7, lit_len " threads: " 10]; exact sz_le (by omega)
    · rw [str_len_app, str_len_app, str_len_app, str_len_app, lit_len "web of " 7, lit_len " threads: " 10]; exact sz_le (by omega)
  · intro hc
    have hc' : Txt.join (Str.ofString ", ") ((pairsL hs).map pairS) = Str.ofString "" := by simpa using hc
    have hp : pairsL hs = [] := List.map_eq_nil_iff.mp (hemp.mp hc')
    have ht : Str.ofString "nobody hears" = toldS hs := by
      unfold toldS
      rw [if_pos hp]
    rw [ht]
    refine ⟨sz_le (by omega), ?_, sz_le (by omega), ?_, rfl, trivial⟩
    · rw [str_len_app, str_len_app, str_len_app, lit_len "web of " 7, lit_len " threads: " 10]; exact sz_le (by omega)
    · rw [str_len_app, str_len_app, str_len_app, str_len_app, lit_len "web of " 7, lit_len " threads: " 10]; exact sz_le (by omega)
theorem ownStr_at (h : HOk hs) (hm : MOk hs.length ms) : wp (ownStr "Web" m_Web___str__ [.p (webP hs ms)] M) Q ↔ Q (.p (.str (textS hs ms))) M := by
  have e : m_Web___str__ [.p (webP hs ms)] M = some (.ok (.p (.str (textS hs ms))), M) := wp_eq ((wp_str h hm).mpr ⟨rfl, rfl⟩)
  refine wp_of ?_
  unfold ownStr
  simp only [insW, if_true, e]
end
end DL

set_option maxHeartbeats 4000000
namespace DL
open PySem PySem.Spec PyProof.Rows L2
local macro_rules | `(tactic| walk_at "ev") => `(tactic| try simp only [↓wp_var0, ↓wp_varS, ↓wp_C, ↓wp_Op, ↓wp_Un, ↓wp_aNil, ↓wp_aCons, ↓wp_And, ↓wp_Or, ↓wp_If, ↓wp_Disp, ↓wp_Call, ↓wp_CallB, ↓wp_tCmp, ↓wp_bolD, ↓wp_Chain, ↓wp_tChn, ↓wp_tru, ↓wp_tNot, ↓wp_tAnd, ↓wp_tOr, ↓wp_tYes, ↓wp_Lc, ↓wp_Meth, ↓wp_Prop, ↓wp_Bm, ↓wp_Slice, ↓wp_oNone, ↓wp_oSome, ↓intK_i, ↓wp_aSeq, ↓seqQ_l, ↓seqQ_t, ↓wp_aEnum, ↓enmK_t, ↓enmK_l, ↓wp_aZip, ↓zipK_t, ↓zipK_l, ↓wp_Seq, ↓seqK_nx, ↓seqK_ret, ↓seqK_brk, ↓seqK_ct, ↓wp_Nop, ↓wp_Break, ↓wp_Cont, ↓wp_Ret, ↓wp_RetN, ↓wp_Never, ↓wp_Expr, ↓wp_sIf, ↓wp_AsgN, ↓wp_Par, ↓parK_2, ↓wp_For, ↓wp_Sub, ↓finK_ret, ↓finK_nx, ↓wp_fn1, ↓wp_fn2, ↓wp_fn3, ↓wp_fn4, ↓wp_lift2, ↓wp_lift1, ↓wp_look2, ↓wp_liftn1, ↓wp_liftn2, ↓wp_liftn3, ↓wp_notD, ↓wp_len_t, ↓wp_len_l, ↓wp_tuple_l, ↓wp_tuple_t, ↓wp_list_l, ↓wp_list_t, ↓wp_isN, ↓wp_notN, ↓wp_T0, ↓wp_T1, ↓wp_T2, ↓wp_T3, ↓wp_T4, ↓wp_T5, ↓wp_L0, ↓wp_L1, ↓wp_L2, ↓wp_L3, ↓wp_L4, ↓wp_L5, ↓wp_newP, ↓wo_one, ↓wo_two, ↓wo_some, ↓wo_lt, ↓wo_le, ↓wo_gt, ↓wo_ge, ↓wo_sub, ↓wo_neg, ↓wo_addI, ↓wo_abs, ↓wo_int, ↓wo_intB, ↓wo_max2, ↓wo_min2, ↓wo_all, ↓wo_any, ↓wo_sum, ↓wo_eqI, ↓wo_neI, ↓truD_e, bodyK_nx, bodyK_ct, bodyK_ret, bodyK_brk, List.replicate, Nat.reduceSub, List.set, wipeR_nil, wipeR_cons, putL_nil, putL_cons])
local macro_rules | `(tactic| walk_at "evA") => `(tactic| try simp only [↓wp_var0, ↓wp_varS, ↓wp_C, ↓wp_Op, ↓wp_Un, ↓wp_aNil, ↓wp_aCons, ↓wp_And, ↓wp_Or, ↓wp_If, ↓wp_Disp, ↓wp_Call, ↓wp_CallB, ↓wp_tCmp, ↓wp_bolD, ↓wp_Chain, ↓wp_tChn, ↓wp_tru, ↓wp_tNot, ↓wp_tAnd, ↓wp_tOr, ↓wp_tYes, ↓wp_Lc, ↓wp_Meth, ↓wp_Prop, ↓wp_Bm, ↓wp_Slice, ↓wp_oNone, ↓wp_oSome, ↓intK_i, ↓wp_aSeq, ↓seqQ_l, ↓seqQ_t, ↓wp_aEnum, ↓enmK_t, ↓enmK_l, ↓wp_aZip, ↓zipK_t, ↓zipK_l, ↓wp_Seq, ↓seqK_nx, ↓seqK_ret, ↓seqK_brk, ↓seqK_ct, ↓wp_Nop, ↓wp_Break, ↓wp_Cont, ↓wp_Ret, ↓wp_RetN, ↓wp_Never, ↓wp_Expr, ↓wp_sIf, ↓wp_AsgN, ↓wp_Par, ↓parK_2, ↓wp_For, ↓wp_Sub, ↓finK_ret, ↓finK_nx, ↓wp_fn1, ↓wp_fn2, ↓wp_fn3, ↓wp_fn4, ↓wp_lift2, ↓wp_lift1, ↓wp_look2, ↓wp_liftn1, ↓wp_liftn2, ↓wp_liftn3, ↓wp_notD, ↓wp_len_t, ↓wp_len_l, ↓wp_tuple_l, ↓wp_tuple_t, ↓wp_list_l, ↓wp_list_t, ↓wp_isN, ↓wp_notN, ↓wp_T0, ↓wp_T1, ↓wp_T2, ↓wp_T3, ↓wp_T4, ↓wp_T5, ↓wp_L0, ↓wp_L1, ↓wp_L2, ↓wp_L3, ↓wp_L4, ↓wp_L5, ↓wp_newP, ↓wo_one, ↓wo_two, ↓wo_some, ↓wo_lt, ↓wo_le, ↓wo_gt, ↓wo_ge, ↓wo_sub, ↓wo_neg, ↓wo_addI, ↓wo_abs, ↓wo_int, ↓wo_intB, ↓wo_max2, ↓wo_min2, ↓wo_all, ↓wo_any, ↓wo_sum, ↓wo_eqI, ↓wo_neI, ↓truD_e, bodyK_nx, bodyK_ct, bodyK_ret, bodyK_brk, List.replicate, Nat.reduceSub, List.set, wipeR_nil, wipeR_cons, putL_nil, putL_cons, ↓wo_modA, ↓wo_divA, ↓wo_mulA, ↓wo_addSA, ↓wo_addTA, ↓wo_addLA, ↓wo_strI, ↓wo_strS, ↓wo_fmtI, ↓wo_fmtS, ↓jsK_s, ↓wp_js0, ↓wp_js1, ↓wp_Joined, ↓wp_joinL, ↓isS_str, ↓wp_mkOA])
local macro_rules | `(tactic| walk_at "evs") => `(tactic| try simp only [↓wp_var0, ↓wp_varS, ↓wp_C, ↓wp_Op, ↓wp_Un, ↓wp_aNil, ↓wp_aCons, ↓wp_And, ↓wp_Or, ↓wp_If, ↓wp_Disp, ↓wp_Call, ↓wp_CallB, ↓wp_tCmp, ↓wp_bolD, ↓wp_Chain, ↓wp_tChn, ↓wp_tru, ↓wp_tNot, ↓wp_tAnd, ↓wp_tOr, ↓wp_tYes, ↓wp_Lc, ↓wp_Meth, ↓wp_Prop, ↓wp_Bm, ↓wp_Slice, ↓wp_oNone, ↓wp_oSome, ↓intK_i, ↓wp_aSeq, ↓seqQ_l, ↓seqQ_t, ↓wp_aEnum, ↓enmK_t, ↓enmK_l, ↓wp_aZip, ↓zipK_t, ↓zipK_l, ↓seqK_ret, ↓seqK_brk, ↓seqK_ct, ↓wp_Nop, ↓wp_Break, ↓wp_Cont, ↓wp_Ret, ↓wp_RetN, ↓wp_Never, ↓wp_Expr, ↓wp_sIf, ↓wp_AsgN, ↓wp_Par, ↓parK_2, ↓wp_For, ↓wp_Sub, ↓finK_ret, ↓finK_nx, ↓wp_fn1, ↓wp_fn2, ↓wp_fn3, ↓wp_fn4, ↓wp_lift2, ↓wp_lift1, ↓wp_look2, ↓wp_liftn1, ↓wp_liftn2, ↓wp_liftn3, ↓wp_notD, ↓wp_len_t, ↓wp_len_l, ↓wp_tuple_l, ↓wp_tuple_t, ↓wp_list_l, ↓wp_list_t, ↓wp_isN, ↓wp_notN, ↓wp_T0, ↓wp_T1, ↓wp_T2, ↓wp_T3, ↓wp_T4, ↓wp_T5, ↓wp_L0, ↓wp_L1, ↓wp_L2, ↓wp_L3, ↓wp_L4, ↓wp_L5, ↓wp_newP, ↓wo_one, ↓wo_two, ↓wo_some, ↓wo_lt, ↓wo_le, ↓wo_gt, ↓wo_ge, ↓wo_sub, ↓wo_neg, ↓wo_addI, ↓wo_abs, ↓wo_int, ↓wo_intB, ↓wo_max2, ↓wo_min2, ↓wo_all, ↓wo_any, ↓wo_sum, ↓wo_eqI, ↓wo_neI, ↓truD_e, bodyK_nx, bodyK_ct, bodyK_ret, bodyK_brk, List.replicate, Nat.reduceSub, List.set, wipeR_nil, wipeR_cons, putL_nil, putL_cons])
local macro_rules | `(tactic| walk_at "evsA") => `(tactic| try simp only [↓wp_var0, ↓wp_varS, ↓wp_C, ↓wp_Op, ↓wp_Un, ↓wp_aNil, ↓wp_aCons, ↓wp_And, ↓wp_Or, ↓wp_If, ↓wp_Disp, ↓wp_Call, ↓wp_CallB, ↓wp_tCmp, ↓wp_bolD, ↓wp_Chain, ↓wp_tChn, ↓wp_tru, ↓wp_tNot, ↓wp_tAnd, ↓wp_tOr, ↓wp_tYes, ↓wp_Lc, ↓wp_Meth, ↓wp_Prop, ↓wp_Bm, ↓wp_Slice, ↓wp_oNone, ↓wp_oSome, ↓intK_i, ↓wp_aSeq, ↓seqQ_l, ↓seqQ_t, ↓wp_aEnum, ↓enmK_t, ↓enmK_l, ↓wp_aZip, ↓zipK_t, ↓zipK_l, ↓seqK_ret, ↓seqK_brk, ↓seqK_ct, ↓wp_Nop, ↓wp_Break, ↓wp_Cont, ↓wp_Ret, ↓wp_RetN, ↓wp_Never, ↓wp_Expr, ↓wp_sIf, ↓wp_AsgN, ↓wp_Par, ↓parK_2, ↓wp_For, ↓wp_Sub, ↓finK_ret, ↓finK_nx, ↓wp_fn1, ↓wp_fn2, ↓wp_fn3, ↓wp_fn4, ↓wp_lift2, ↓wp_lift1, ↓wp_look2, ↓wp_liftn1, ↓wp_liftn2, ↓wp_liftn3, ↓wp_notD, ↓wp_len_t, ↓wp_len_l, ↓wp_tuple_l, ↓wp_tuple_t, ↓wp_list_l, ↓wp_list_t, ↓wp_isN, ↓wp_notN, ↓wp_T0, ↓wp_T1, ↓wp_T2, ↓wp_T3, ↓wp_T4, ↓wp_T5, ↓wp_L0, ↓wp_L1, ↓wp_L2, ↓wp_L3, ↓wp_L4, ↓wp_L5, ↓wp_newP, ↓wo_one, ↓wo_two, ↓wo_some, ↓wo_lt, ↓wo_le, ↓wo_gt, ↓wo_ge, ↓wo_sub, ↓wo_neg, ↓wo_addI, ↓wo_abs, ↓wo_int, ↓wo_intB, ↓wo_max2, ↓wo_min2, ↓wo_all, ↓wo_any, ↓wo_sum, ↓wo_eqI, ↓wo_neI, ↓truD_e, bodyK_nx, bodyK_ct, bodyK_ret, bodyK_brk, List.replicate, Nat.reduceSub, List.set, wipeR_nil, wipeR_cons, putL_nil, putL_cons, ↓wo_modA, ↓wo_divA, ↓wo_mulA, ↓wo_addSA, ↓wo_addTA, ↓wo_addLA, ↓wo_strI, ↓wo_strS, ↓wo_fmtI, ↓wo_fmtS, ↓jsK_s, ↓wp_js0, ↓wp_js1, ↓wp_Joined, ↓wp_joinL, ↓isS_str, ↓wp_mkOA])
section
variable {M : Mem} {Q : D → Mem → Prop} {hs hs' : List (List Int)} {ms ms' : List Int}
theorem okP_web : okP (webP hs ms) = true := by show cmpT (.inr "Web") = true; decide +kernel
theorem cmpT_web : cmpT (.inr "Web") = true := by decide +kernel
theorem cmpT_tup : cmpT (.inl "tuple") = true := by decide +kernel
theorem isi_web : isiO isiT [.p (webP hs ms), .p (.cls "Web")] M = some (.ok (.p (.bl true)), M) := by
  have : isiT (.inr "Web") (.inr "Web") = some true := by decide +kernel
  unfold isiO
  simp only [webP, tyD, clsD, this]
theorem isi_tupW {xs : List P} : isiO isiT [.p (.tup xs), .p (.cls "Web")] M = some (.ok (.p (.bl false)), M) := by
  have : isiT (.inl "tuple") (.inr "Web") = some false := by decide +kernel
  unfold isiO
  simp only [tyD, clsD, this]
theorem wp_eqW : wp (m_Web___eq__ [.p (webP hs ms), .p (webP hs' ms')] M) Q ↔ Q (.p (.bl (decide (hs = hs' ∧ ms = ms')))) M := by
  suffices key : wp (m_Web___eq__ [.p (webP hs ms), .p (webP hs' ms')] M) fun d M' => d = .p (.bl (decide (hs = hs' ∧ ms = ms'))) ∧ M' = M from wp_of (wp_eq key)
  unfold m_Web___eq__ b_Web___eq__
  walk_at "ev"
  rw [wp_of isi_web]
  walk_at "ev"
  refine ⟨fun _ => ?_, by simp⟩
  rw [wp_s_heard, wp_s_heard]
  walk_at "ev"
  rw [wo_of eqP_rows]
  walk_at "ev"
  constructor
  · intro h1
    have h1 : hs = hs' := by simpa using h1
    rw [wp_s_marks, wp_s_marks]
    unfold marksP
    walk_at "ev"
    rw [wo_of eqP_tt]
    simp [h1]
  · intro h1
    have h1 : ¬ hs = hs' := by simpa using h1
    simp [h1]
theorem wp_eqT {xs : List P} : wp (m_Web___eq__ [.p (webP hs ms), .p (.tup xs)] M) Q ↔ Q (.p (.bl false)) M := by
  suffices key : wp (m_Web___eq__ [.p (webP hs ms), .p (.tup xs)] M) fun d M' => d = .p (.bl false) ∧ M' = M from wp_of (wp_eq key)
  unfold m_Web___eq__ b_Web___eq__
  walk_at "ev"
  rw [wp_of isi_tupW]
  walk_at "ev"
  simp
theorem wp_cmpW : wp (ownCmp "Web" m_Web___eq__ cmpT (.p (webP hs ms)) (.p (webP hs' ms')) M) Q ↔ Q (.p (.bl (decide (hs = hs' ∧ ms = ms')))) M := by
  have e : m_Web___eq__ [.p (webP hs ms), .p (webP hs' ms')] M = some (.ok (.p (.bl (decide (hs = hs' ∧ ms = ms')))), M) := wp_eq (wp_eqW.mpr ⟨rfl, rfl⟩)
  refine wp_of ?_
  unfold ownCmp
  have : tyD (.p (webP hs' ms')) M = some (.inr "Web") := rfl
  simp only [insW, if_true, this, cmpT_web, e, boolD, Bool.bne_false]
theorem wp_cmpT {xs : List P} : wp (ownCmp "Web" m_Web___eq__ cmpT (.p (webP hs ms)) (.p (.tup xs)) M) Q ↔ Q (.p (.bl false)) M := by
  have e : m_Web___eq__ [.p (webP hs ms), .p (.tup xs)] M = some (.ok (.p (.bl false)), M) := wp_eq (wp_eqT.mpr ⟨rfl, rfl⟩)
  refine wp_of ?_
  unfold ownCmp
  have : tyD (.p (.tup xs)) M = some (.inl "tuple") := rfl
  simp only [insW, if_true, this, cmpT_tup, e, boolD, Bool.bne_false]
/-! ### in -/
theorem inP_pair (h : HOk hs) {a b : P} {i j : Int} (ha : datB 1 a = true) (hb : datB 1 b = true) (ea : ∀ n, PyData.eqv (.int n) (toPy a) = decide (n = i)) (eb : ∀ n, PyData.eqv (.int n) (toPy b) = decide (n = j)) : inP (.tup [a, b]) (pairsP hs) = some (.bl (decide ((i, j) ∈ pairsL hs))) := by
  unfold inP pairsP
  simp only
  rw [sh_dat (d := 2) (p := .tup [a, b]) (by simp [datB, datL, ha, hb]), sh_dat (d := 2) (by
    show datL 1 _ = true
    exact dat_map fun p _ => by simp [datB, datL])]
  have : inL (.tup [a, b]) ((pairsL hs).map fun p => P.tup [.int p.1, .int p.2]) = decide ((i, j) ∈ pairsL hs) := by
    unfold inL
    generalize pairsL hs = ps
    induction ps with
    | nil => simp
    | cons p r ih =>
      rw [List.map_cons, List.any_cons, ih]
      simp only [toPy, toPyL, eqv_tup, eqvAll_cons, eqvAll_nil, Bool.and_true]
      rw [ea, eb]
      obtain ⟨p1, p2⟩ := p
      rw [Bool.eq_iff_iff]
      simp
      constructor
      · rintro (⟨h1, h2⟩ | h)
        · exact .inl ⟨h1.symm, h2.symm⟩
        · exact .inr h
      · rintro (⟨h1, h2⟩ | h)
        · exact .inl ⟨h1.symm, h2.symm⟩
        · exact .inr h
  rw [this]
  rfl
theorem okP_bl {b : Bool} : okP (.bl b) = true := by show hasB "bool" = true; decide
theorem okP_str {b : Str} : okP (.str b) = true := by show hasB "str" = true; decide
theorem w_plainp {a b : P} (ha : okP a = true) (hb : okP b = true) : wp (m_is_plain_pair [.p (.tup [a, b])] M) Q ↔ Q (.p (.bl (!isTy "bool" a && !isTy "bool" b))) M := by
  suffices key : wp (m_is_plain_pair [.p (.tup [a, b])] M) fun d M' => d = .p (.bl (!isTy "bool" a && !isTy "bool" b)) ∧ M' = M from wp_of (wp_eq key)
  unfold m_is_plain_pair b_is_plain_pair
  walk_at "ev"
  refine wp_lcm [a, b] (fun x => .bl (!isTy "bool" x)) (fun x hx => ⟨_, rfl, ?_⟩) ?_
  · have hx' : okP x = true := by
      simp at hx
      rcases hx with rfl | rfl
      · exact ha
      · exact hb
    walk_at "ev"
    rw [wp_isi hx' hasB_bool]
    walk_at "ev"
    exact ⟨trivial, trivial⟩
  · rw [wp_mkL (by simp [sizeLine_eq])]
    walk_at "ev"
    rw [show [a, b].map (fun x => P.bl !isTy "bool" x) = [!isTy "bool" a, !isTy "bool" b].map P.bl from rfl]
    walk_at "ev"
    simp
theorem wp_inPair (h : HOk hs) {i j : Int} : wp (m_Web___contains__ [.p (webP hs ms), .p (.tup [.int i, .int j])] M) Q ↔ Q (.p (.bl (decide ((i, j) ∈ pairsL hs)))) M := by
  suffices key : wp (m_Web___contains__ [.p (webP hs ms), .p (.tup [.int i, .int j])] M) fun d M' => d = .p (.bl (decide ((i, j) ∈ pairsL hs))) ∧ M' = M from wp_of (wp_eq key)
  unfold m_Web___contains__ b_Web___contains__
  walk_at "ev"
  rw [wp_of isi_tup]
  walk_at "ev"
  refine ⟨fun _ => ⟨fun _ => ?_, by simp⟩, by simp⟩
  rw [wp_s_pairs]
  walk_at "ev"
  rw [wo_of (inP_pair h (i := i) (j := j) (by simp [datB]) (by simp [datB]) (fun n => eqv_int) (fun n => eqv_int))]
  walk_at "ev"
  constructor
  · intro hc
    rw [w_plainp okP_int okP_int]
    have : (i, j) ∈ pairsL hs := by simpa using hc
    simp [this, isTy, tyP]
  · intro hc
    exact ⟨trivial, trivial⟩
theorem wp_inNot {d : P} (h : okP d = true) (hn : isTy "tuple" d = false) : wp (m_Web___contains__ [.p (webP hs ms), .p d] M) Q ↔ Q (.p (.bl false)) M := by
  suffices key : wp (m_Web___contains__ [.p (webP hs ms), .p d] M) fun d M' => d = .p (.bl false) ∧ M' = M from wp_of (wp_eq key)
  unfold m_Web___contains__ b_Web___contains__
  walk_at "ev"
  rw [wp_isi h hasB_tuple, hn]
  walk_at "ev"
  simp
theorem wp_inLen {xs : List P} (h : xs.length ≠ 2) : wp (m_Web___contains__ [.p (webP hs ms), .p (.tup xs)] M) Q ↔ Q (.p (.bl false)) M := by
  suffices key : wp (m_Web___contains__ [.p (webP hs ms), .p (.tup xs)] M) fun d M' => d = .p (.bl false) ∧ M' = M from wp_of (wp_eq key)
  unfold m_Web___contains__ b_Web___contains__
  walk_at "ev"
  rw [wp_of isi_tup]
  walk_at "ev"
  have : ¬ (xs.length : Int) = 2 := by omega
  simp [this]
theorem wp_inGen {a b : P} {c e : Bool} (hc : inP (.tup [a, b]) (pairsP hs) = some (.bl c)) (ha : okP a = true) (hb : okP b = true) (he : (c && (!isTy "bool" a && !isTy "bool" b)) = e) : wp (m_Web___contains__ [.p (webP hs ms), .p (.tup [a, b])] M) Q ↔ Q (.p (.bl e)) M := by
  suffices key : wp (m_Web___contains__ [.p (webP hs ms), .p (.tup [a, b])] M) fun d M' => d = .p (.bl e) ∧ M' = M from wp_of (wp_eq key)
  unfold m_Web___contains__ b_Web___contains__
  walk_at "ev"
  rw [wp_of isi_tup]
  walk_at "ev"
  refine ⟨fun _ => ⟨fun _ => ?_, by simp⟩, by simp⟩
  rw [wp_s_pairs]
  walk_at "ev"
  rw [wo_of hc]
  walk_at "ev"
  subst he
  cases c with
  | true =>
    refine ⟨fun _ => ?_, by simp⟩
    rw [w_plainp ha hb]
    simp
  | false => simp
def oddL (s : Int) : List P := [.non, .int 0, .tup [.int 0], .lst [.int 0, .int 1], .tup [.int 0, .int 0], .tup [.int 0, .int s], .tup [.int (-1), .int 0], .tup [.bl true, .int 0], .tup [.str "0", .int 1], .tup [.int 0, .int 1, .int 2], .dic [] []]
theorem mem_pairs {i j : Int} (h : (i, j) ∈ pairsL hs) : ∃ (t : Nat) (r : List Int), hs[t]? = some r ∧ i = t ∧ j ∈ r := by
  unfold pairsL at h
  obtain ⟨x, hx, hp⟩ := List.mem_flatMap.mp h
  obtain ⟨o, ho, e⟩ := List.mem_map.mp hp
  cases e
  exact ⟨x.2, x.1, mem_zipIdx hx, rfl, ho⟩
theorem wp_odd (h : HOk hs) {p : P} (hp : p ∈ oddL hs.length) : wp (m_Web___contains__ [.p (webP hs ms), .p p] M) Q ↔ Q (.p (.bl false)) M := by
  simp only [oddL, List.mem_cons, List.not_mem_nil, or_false] at hp
  rcases hp with rfl | rfl | rfl | rfl | rfl | rfl | rfl | rfl | rfl | rfl | rfl
  · exact wp_inNot (by show hasB "NoneType" = true; decide) rfl
  · exact wp_inNot okP_int rfl
  · exact wp_inLen (by decide)
  · exact wp_inNot (by show hasB "list" = true; decide) rfl
  · rw [wp_inPair h, decide_eq_false]
    intro z
    obtain ⟨t, r, h1, h2, h3⟩ := mem_pairs z
    exact h.own t r h1 (by rw [← h2]; exact h3)
  · rw [wp_inPair h, decide_eq_false]
    intro z
    obtain ⟨t, r, h1, h2, h3⟩ := mem_pairs z
    have := h.rng r (List.mem_of_getElem? h1) _ h3
    omega
  · rw [wp_inPair h, decide_eq_false]
    intro z
    obtain ⟨t, r, h1, h2, h3⟩ := mem_pairs z
    omega
  · exact wp_inGen (inP_pair h (i := 1) (j := 0) (by simp [datB]) (by simp [datB]) (fun n => by simp [toPy, PyData.eqv]; rw [Bool.eq_iff_iff]; simp) (fun n => eqv_int)) okP_bl okP_int (by simp [isTy, tyP])
  · refine wp_inGen (c := false) ?_ okP_str okP_int rfl
    unfold inP pairsP
    simp only
    rw [sh_dat (d := 2) (p := .tup [.str "0", .int 1]) (by
        have := sOk_of "0"
        unfold sOk at this
        simp [datB, datL, this]), sh_dat (d := 2) (by
      show datL 1 _ = true
      exact dat_map fun p _ => by simp [datB, datL])]
    have : inL (.tup [.str "0", .int 1]) ((pairsL hs).map fun p => P.tup [.int p.1, .int p.2]) = false := by
      unfold inL
      rw [List.any_eq_false]
      intro y hy
      obtain ⟨p, _, rfl⟩ := List.mem_map.mp hy
      simp [toPy, toPyL, PyData.eqv, PyData.eqvAll]
    rw [this]
    rfl
  · exact wp_inLen (by decide)
  · exact wp_inNot (by show hasB "dict" = true; decide) rfl
theorem ownIn_at {d : P} {b : Bool} (e : ∀ {Q : D → Mem → Prop}, wp (m_Web___contains__ [.p (webP hs ms), .p d] M) Q ↔ Q (.p (.bl b)) M) : wp (ownIn "Web" m_Web___contains__ false (.p d) (.p (webP hs ms)) M) Q ↔ Q (.p (.bl b)) M := by
  have e' : m_Web___contains__ [.p (webP hs ms), .p d] M = some (.ok (.p (.bl b)), M) := wp_eq (e.mpr ⟨rfl, rfl⟩)
  refine wp_of ?_
  unfold ownIn
  simp only [insW, if_true, e', boolD, Bool.bne_false]
end
end DL

set_option maxHeartbeats 4000000
namespace DL
open PySem PySem.Spec PyProof.Rows L2
local macro_rules | `(tactic| walk_at "ev") => `(tactic| try simp only [↓wp_var0, ↓wp_varS, ↓wp_C, ↓wp_Op, ↓wp_Un, ↓wp_aNil, ↓wp_aCons, ↓wp_And, ↓wp_Or, ↓wp_If, ↓wp_Disp, ↓wp_Call, ↓wp_CallB, ↓wp_tCmp, ↓wp_bolD, ↓wp_Chain, ↓wp_tChn, ↓wp_tru, ↓wp_tNot, ↓wp_tAnd, ↓wp_tOr, ↓wp_tYes, ↓wp_Lc, ↓wp_Meth, ↓wp_Prop, ↓wp_Bm, ↓wp_Slice, ↓wp_oNone, ↓wp_oSome, ↓intK_i, ↓wp_aSeq, ↓seqQ_l, ↓seqQ_t, ↓wp_aEnum, ↓enmK_t, ↓enmK_l, ↓wp_aZip, ↓zipK_t, ↓zipK_l, ↓wp_Seq, ↓seqK_nx, ↓seqK_ret, ↓seqK_brk, ↓seqK_ct, ↓wp_Nop, ↓wp_Break, ↓wp_Cont, ↓wp_Ret, ↓wp_RetN, ↓wp_Never, ↓wp_Expr, ↓wp_sIf, ↓wp_AsgN, ↓wp_Par, ↓parK_2, ↓wp_For, ↓wp_Sub, ↓finK_ret, ↓finK_nx, ↓wp_fn1, ↓wp_fn2, ↓wp_fn3, ↓wp_fn4, ↓wp_lift2, ↓wp_lift1, ↓wp_look2, ↓wp_liftn1, ↓wp_liftn2, ↓wp_liftn3, ↓wp_notD, ↓wp_len_t, ↓wp_len_l, ↓wp_tuple_l, ↓wp_tuple_t, ↓wp_list_l, ↓wp_list_t, ↓wp_isN, ↓wp_notN, ↓wp_T0, ↓wp_T1, ↓wp_T2, ↓wp_T3, ↓wp_T4, ↓wp_T5, ↓wp_L0, ↓wp_L1, ↓wp_L2, ↓wp_L3, ↓wp_L4, ↓wp_L5, ↓wp_newP, ↓wo_one, ↓wo_two, ↓wo_some, ↓wo_lt, ↓wo_le, ↓wo_gt, ↓wo_ge, ↓wo_sub, ↓wo_neg, ↓wo_addI, ↓wo_abs, ↓wo_int, ↓wo_intB, ↓wo_max2, ↓wo_min2, ↓wo_all, ↓wo_any, ↓wo_sum, ↓wo_eqI, ↓wo_neI, ↓truD_e, bodyK_nx, bodyK_ct, bodyK_ret, bodyK_brk, List.replicate, Nat.reduceSub, List.set, wipeR_nil, wipeR_cons, putL_nil, putL_cons])
local macro_rules | `(tactic| walk_at "evA") => `(tactic| try simp only [↓wp_var0, ↓wp_varS, ↓wp_C, ↓wp_Op, ↓wp_Un, ↓wp_aNil, ↓wp_aCons, ↓wp_And, ↓wp_Or, ↓wp_If, ↓wp_Disp, ↓wp_Call, ↓wp_CallB, ↓wp_tCmp, ↓wp_bolD, ↓wp_Chain, ↓wp_tChn, ↓wp_tru, ↓wp_tNot, ↓wp_tAnd, ↓wp_tOr, ↓wp_tYes, ↓wp_Lc, ↓wp_Meth, ↓wp_Prop, ↓wp_Bm, ↓wp_Slice, ↓wp_oNone, ↓wp_oSome, ↓intK_i, ↓wp_aSeq, ↓seqQ_l, ↓seqQ_t, ↓wp_aEnum, ↓enmK_t, ↓enmK_l, ↓wp_aZip, ↓zipK_t, ↓zipK_l, ↓wp_Seq, ↓seqK_nx, ↓seqK_ret, ↓seqK_brk, ↓seqK_ct, ↓wp_Nop, ↓wp_Break, ↓wp_Cont, ↓wp_Ret, ↓wp_RetN, ↓wp_Never, ↓wp_Expr, ↓wp_sIf, ↓wp_AsgN, ↓wp_Par, ↓parK_2, ↓wp_For, ↓wp_Sub, ↓finK_ret, ↓finK_nx, ↓wp_fn1, ↓wp_fn2, ↓wp_fn3, ↓wp_fn4, ↓wp_lift2, ↓wp_lift1, ↓wp_look2, ↓wp_liftn1, ↓wp_liftn2, ↓wp_liftn3, ↓wp_notD, ↓wp_len_t, ↓wp_len_l, ↓wp_tuple_l, ↓wp_tuple_t, ↓wp_list_l, ↓wp_list_t, ↓wp_isN, ↓wp_notN, ↓wp_T0, ↓wp_T1, ↓wp_T2, ↓wp_T3, ↓wp_T4, ↓wp_T5, ↓wp_L0, ↓wp_L1, ↓wp_L2, ↓wp_L3, ↓wp_L4, ↓wp_L5, ↓wp_newP, ↓wo_one, ↓wo_two, ↓wo_some, ↓wo_lt, ↓wo_le, ↓wo_gt, ↓wo_ge, ↓wo_sub, ↓wo_neg, ↓wo_addI, ↓wo_abs, ↓wo_int, ↓wo_intB, ↓wo_max2, ↓wo_min2, ↓wo_all, ↓wo_any, ↓wo_sum, ↓wo_eqI, ↓wo_neI, ↓truD_e, bodyK_nx, bodyK_ct, bodyK_ret, bodyK_brk, List.replicate, Nat.reduceSub, List.set, wipeR_nil, wipeR_cons, putL_nil, putL_cons, ↓wo_modA, ↓wo_divA, ↓wo_mulA, ↓wo_addSA, ↓wo_addTA, ↓wo_addLA, ↓wo_strI, ↓wo_strS, ↓wo_fmtI, ↓wo_fmtS, ↓jsK_s, ↓wp_js0, ↓wp_js1, ↓wp_Joined, ↓wp_joinL, ↓isS_str, ↓wp_mkOA])
local macro_rules | `(tactic| walk_at "evs") => `(tactic| try simp only [↓wp_var0, ↓wp_varS, ↓wp_C, ↓wp_Op, ↓wp_Un, ↓wp_aNil, ↓wp_aCons, ↓wp_And, ↓wp_Or, ↓wp_If, ↓wp_Disp, ↓wp_Call, ↓wp_CallB, ↓wp_tCmp, ↓wp_bolD, ↓wp_Chain, ↓wp_tChn, ↓wp_tru, ↓wp_tNot, ↓wp_tAnd, ↓wp_tOr, ↓wp_tYes, ↓wp_Lc, ↓wp_Meth, ↓wp_Prop, ↓wp_Bm, ↓wp_Slice, ↓wp_oNone, ↓wp_oSome, ↓intK_i, ↓wp_aSeq, ↓seqQ_l, ↓seqQ_t, ↓wp_aEnum, ↓enmK_t, ↓enmK_l, ↓wp_aZip, ↓zipK_t, ↓zipK_l, ↓seqK_ret, ↓seqK_brk, ↓seqK_ct, ↓wp_Nop, ↓wp_Break, ↓wp_Cont, ↓wp_Ret, ↓wp_RetN, ↓wp_Never, ↓wp_Expr, ↓wp_sIf, ↓wp_AsgN, ↓wp_Par, ↓parK_2, ↓wp_For, ↓wp_Sub, ↓finK_ret, ↓finK_nx, ↓wp_fn1, ↓wp_fn2, ↓wp_fn3, ↓wp_fn4, ↓wp_lift2, ↓wp_lift1, ↓wp_look2, ↓wp_liftn1, ↓wp_liftn2, ↓wp_liftn3, ↓wp_notD, ↓wp_len_t, ↓wp_len_l, ↓wp_tuple_l, ↓wp_tuple_t, ↓wp_list_l, ↓wp_list_t, ↓wp_isN, ↓wp_notN, ↓wp_T0, ↓wp_T1, ↓wp_T2, ↓wp_T3, ↓wp_T4, ↓wp_T5, ↓wp_L0, ↓wp_L1, ↓wp_L2, ↓wp_L3, ↓wp_L4, ↓wp_L5, ↓wp_newP, ↓wo_one, ↓wo_two, ↓wo_some, ↓wo_lt, ↓wo_le, ↓wo_gt, ↓wo_ge, ↓wo_sub, ↓wo_neg, ↓wo_addI, ↓wo_abs, ↓wo_int, ↓wo_intB, ↓wo_max2, ↓wo_min2, ↓wo_all, ↓wo_any, ↓wo_sum, ↓wo_eqI, ↓wo_neI, ↓truD_e, bodyK_nx, bodyK_ct, bodyK_ret, bodyK_brk, List.replicate, Nat.reduceSub, List.set, wipeR_nil, wipeR_cons, putL_nil, putL_cons])
local macro_rules | `(tactic| walk_at "evsA") => `(tactic| try simp only [↓wp_var0, ↓wp_varS, ↓wp_C, ↓wp_Op, ↓wp_Un, ↓wp_aNil, ↓wp_aCons, ↓wp_And, ↓wp_Or, ↓wp_If, ↓wp_Disp, ↓wp_Call, ↓wp_CallB, ↓wp_tCmp, ↓wp_bolD, ↓wp_Chain, ↓wp_tChn, ↓wp_tru, ↓wp_tNot, ↓wp_tAnd, ↓wp_tOr, ↓wp_tYes, ↓wp_Lc, ↓wp_Meth, ↓wp_Prop, ↓wp_Bm, ↓wp_Slice, ↓wp_oNone, ↓wp_oSome, ↓intK_i, ↓wp_aSeq, ↓seqQ_l, ↓seqQ_t, ↓wp_aEnum, ↓enmK_t, ↓enmK_l, ↓wp_aZip, ↓zipK_t, ↓zipK_l, ↓seqK_ret, ↓seqK_brk, ↓seqK_ct, ↓wp_Nop, ↓wp_Break, ↓wp_Cont, ↓wp_Ret, ↓wp_RetN, ↓wp_Never, ↓wp_Expr, ↓wp_sIf, ↓wp_AsgN, ↓wp_Par, ↓parK_2, ↓wp_For, ↓wp_Sub, ↓finK_ret, ↓finK_nx, ↓wp_fn1, ↓wp_fn2, ↓wp_fn3, ↓wp_fn4, ↓wp_lift2, ↓wp_lift1, ↓wp_look2, ↓wp_liftn1, ↓wp_liftn2, ↓wp_liftn3, ↓wp_notD, ↓wp_len_t, ↓wp_len_l, ↓wp_tuple_l, ↓wp_tuple_t, ↓wp_list_l, ↓wp_list_t, ↓wp_isN, ↓wp_notN, ↓wp_T0, ↓wp_T1, ↓wp_T2, ↓wp_T3, ↓wp_T4, ↓wp_T5, ↓wp_L0, ↓wp_L1, ↓wp_L2, ↓wp_L3, ↓wp_L4, ↓wp_L5, ↓wp_newP, ↓wo_one, ↓wo_two, ↓wo_some, ↓wo_lt, ↓wo_le, ↓wo_gt, ↓wo_ge, ↓wo_sub, ↓wo_neg, ↓wo_addI, ↓wo_abs, ↓wo_int, ↓wo_intB, ↓wo_max2, ↓wo_min2, ↓wo_all, ↓wo_any, ↓wo_sum, ↓wo_eqI, ↓wo_neI, ↓truD_e, bodyK_nx, bodyK_ct, bodyK_ret, bodyK_brk, List.replicate, Nat.reduceSub, List.set, wipeR_nil, wipeR_cons, putL_nil, putL_cons, ↓wo_modA, ↓wo_divA, ↓wo_mulA, ↓wo_addSA, ↓wo_addTA, ↓wo_addLA, ↓wo_strI, ↓wo_strS, ↓wo_fmtI, ↓wo_fmtS, ↓jsK_s, ↓wp_js0, ↓wp_js1, ↓wp_Joined, ↓wp_joinL, ↓isS_str, ↓wp_mkOA])
section
variable {M : Mem} {Q : D → Mem → Prop} {hs : List (List Int)} {ms : List Int}
theorem withOwn_range : withOwn hs = (List.range hs.length).map fun t => sortI (hs.getD t [] ++ [((t : Nat) : Int)]) := by
  refine List.ext_getElem? fun i => ?_
  unfold withOwn
  by_cases hi : i < hs.length
  · simp [hi]
  · simp [hi]
theorem sigs_range (hl : ms.length = hs.length) : sigsL hs ms = (List.range hs.length).map fun t => .tup [.tup (((withOwn hs).getD t []).map .int), .int (ms.getD t 0)] := by
  refine List.ext_getElem? fun i => ?_
  by_cases hi : i < hs.length
  · rw [sig_at hi hl]
    simp [hi]
  · have h1 : (withOwn hs).length = hs.length := by simp [withOwn]
    have : (sigsL hs ms).length = hs.length := by simp [sigsL, h1, hl]
    rw [List.getElem?_eq_none (by omega)]
    simp [hi]
theorem pw_rise : ∀ {r : List Int}, rise r = true → r.Pairwise (· < ·) := by
  intro r h
  induction r with
  | nil => exact .nil
  | cons a r ih =>
    cases r with
    | nil => exact List.pairwise_singleton _ _
    | cons b r =>
      unfold rise at h
      simp only [List.tail_cons, List.zip_cons_cons, List.all_cons, Bool.and_eq_true, decide_eq_true_eq] at h
      have h2 : rise (b :: r) = true := by unfold rise; simpa using h.2
      have p := ih h2
      refine List.pairwise_cons.mpr ⟨fun x hx => ?_, p⟩
      rcases List.mem_cons.mp hx with rfl | hx
      · exact h.1
      · have := (List.pairwise_cons.mp p).1 x hx
        omega
theorem pw_range (n : Nat) : ((List.range n).map fun i => ((i : Nat) : Int)).Pairwise (· < ·) := by
  rw [List.pairwise_map]
  exact List.pairwise_lt_range.imp fun h => by omega
theorem pw_ext {xs ys : List Int} (hx : xs.Pairwise (· < ·)) (hy : ys.Pairwise (· < ·)) (h : ∀ i, i ∈ xs ↔ i ∈ ys) : xs = ys := by
  have nx : xs.Nodup := hx.imp fun h => by omega
  have ny : ys.Nodup := hy.imp fun h => by omega
  exact List.Perm.eq_of_pairwise (le := fun (a b : Int) => a < b) (fun a b _ _ h1 h2 => by omega) hx hy ((List.perm_ext_iff_of_nodup nx ny).mpr h)
theorem row_filter {r : List Int} {n : Nat} (hr : rise r = true) (hb : ∀ i ∈ r, 0 ≤ i ∧ i < n) : ((List.range n).filter fun i => decide (((i : Nat) : Int) ∈ r)).map (fun i => ((i : Nat) : Int)) = r := by
  refine pw_ext ?_ (pw_rise hr) fun i => ?_
  · rw [List.pairwise_map]
    exact (List.Pairwise.sublist List.filter_sublist List.pairwise_lt_range).imp fun h => by omega
  · simp only [List.mem_map, List.mem_filter, List.mem_range, decide_eq_true_eq]
    constructor
    · rintro ⟨a, ⟨_, h⟩, rfl⟩
      exact h
    · intro hi
      have := hb i hi
      refine ⟨i.toNat, ⟨by omega, ?_⟩, by omega⟩
      rw [show ((i.toNat : Nat) : Int) = i by omega]
      exact hi
theorem pairs_mem {t : Nat} {j : Int} (ht : t < hs.length) : (((t : Nat) : Int), j) ∈ pairsL hs ↔ j ∈ hs.getD t [] := by
  constructor
  · intro h
    obtain ⟨t', r, h1, h2, h3⟩ := mem_pairs h
    have : t = t' := by omega
    subst this
    rw [List.getD_eq_getElem?_getD, h1]
    exact h3
  · intro h
    unfold pairsL
    refine List.mem_flatMap.mpr ⟨(hs.getD t [], t), ?_, List.mem_map.mpr ⟨j, h, rfl⟩⟩
    rw [List.mem_zipIdx_iff_getElem?]
    simp [ht]
theorem pairs_sum : ((pairsL hs).length : Int) = (hs.map fun r => (r.length : Int)).sum := by
  have : ∀ (xs : List (List Int)) (k : Nat), (((xs.zipIdx k).flatMap fun x => x.1.map fun o => (((x.2 : Nat) : Int), o)).length : Int) = (xs.map fun r => (r.length : Int)).sum := by
    intro xs
    induction xs with
    | nil => intro k; rfl
    | cons x r ih =>
      intro k
      rw [List.zipIdx_cons, List.flatMap_cons, List.length_append, List.map_cons, List.sum_cons, ← ih (k + 1), List.length_map]
      push_cast
      rfl
  exact this hs 0
theorem max_zero {n : Nat} (h : MOk n ms) (hn : 1 ≤ n) (hz : ¬ 0 < maxL ms) : List.replicate n 0 = ms := by
  have hl := h.len
  cases ms with
  | nil => simp at hl; omega
  | cons m r =>
    have hg := foldl_max_ge r m
    have e : maxL (m :: r) = r.foldl max m := rfl
    rw [e] at hz
    refine (List.eq_replicate_iff.mpr ⟨hl, fun b hb => ?_⟩).symm
    have h0 := h.rng b hb
    have h1 : b ≤ r.foldl max m := by
      rcases List.mem_cons.mp hb with rfl | hb
      · exact hg.1
      · exact hg.2.1 b hb
    omega
theorem dat_sig {d : Nat} : datB (d + 3) (sigP hs ms) = true := by
  show datL (d + 2) (sigsL hs ms) = true
  refine dat_map fun x _ => ?_
  simp [datB, datL, dat_ints]
theorem dat_marks {d : Nat} : datB (d + 1) (marksP ms) = true := dat_tupI ms
theorem wp_web_of (h : HOk hs) (hm : MOk hs.length ms) : wp (m__law_web_of [.p (.tup [rowsP hs, marksP ms])] M) Q ↔ Q (.p (webP hs ms)) M := by
  unfold m__law_web_of b__law_web_of
  walk_at "ev"
  rw [show (D.p (P.int 0)) = D.p (P.int ((0 : Nat) : Int)) from rfl, wp_ixT (v := 0) rfl, show (D.p (P.int 1)) = D.p (P.int ((1 : Nat) : Int)) from rfl, wp_ixT (v := 1) rfl]
  walk_at "ev"
  rw [wo_of (mk_Web_eq h hm)]
end
end DL

set_option maxHeartbeats 4000000
namespace DL
open PySem PySem.Spec PyProof.Rows L2
local macro_rules | `(tactic| walk_at "ev") => `(tactic| try simp only [↓wp_var0, ↓wp_varS, ↓wp_C, ↓wp_Op, ↓wp_Un, ↓wp_aNil, ↓wp_aCons, ↓wp_And, ↓wp_Or, ↓wp_If, ↓wp_Disp, ↓wp_Call, ↓wp_CallB, ↓wp_tCmp, ↓wp_bolD, ↓wp_Chain, ↓wp_tChn, ↓wp_tru, ↓wp_tNot, ↓wp_tAnd, ↓wp_tOr, ↓wp_tYes, ↓wp_Lc, ↓wp_Meth, ↓wp_Prop, ↓wp_Bm, ↓wp_Slice, ↓wp_oNone, ↓wp_oSome, ↓intK_i, ↓wp_aSeq, ↓seqQ_l, ↓seqQ_t, ↓wp_aEnum, ↓enmK_t, ↓enmK_l, ↓wp_aZip, ↓zipK_t, ↓zipK_l, ↓wp_Seq, ↓seqK_nx, ↓seqK_ret, ↓seqK_brk, ↓seqK_ct, ↓wp_Nop, ↓wp_Break, ↓wp_Cont, ↓wp_Ret, ↓wp_RetN, ↓wp_Never, ↓wp_Expr, ↓wp_sIf, ↓wp_AsgN, ↓wp_Par, ↓parK_2, ↓wp_For, ↓wp_Sub, ↓finK_ret, ↓finK_nx, ↓wp_fn1, ↓wp_fn2, ↓wp_fn3, ↓wp_fn4, ↓wp_lift2, ↓wp_lift1, ↓wp_look2, ↓wp_liftn1, ↓wp_liftn2, ↓wp_liftn3, ↓wp_notD, ↓wp_len_t, ↓wp_len_l, ↓wp_tuple_l, ↓wp_tuple_t, ↓wp_list_l, ↓wp_list_t, ↓wp_isN, ↓wp_notN, ↓wp_T0, ↓wp_T1, ↓wp_T2, ↓wp_T3, ↓wp_T4, ↓wp_T5, ↓wp_L0, ↓wp_L1, ↓wp_L2, ↓wp_L3, ↓wp_L4, ↓wp_L5, ↓wp_newP, ↓wo_one, ↓wo_two, ↓wo_some, ↓wo_lt, ↓wo_le, ↓wo_gt, ↓wo_ge, ↓wo_sub, ↓wo_neg, ↓wo_addI, ↓wo_abs, ↓wo_int, ↓wo_intB, ↓wo_max2, ↓wo_min2, ↓wo_all, ↓wo_any, ↓wo_sum, ↓wo_eqI, ↓wo_neI, ↓truD_e, bodyK_nx, bodyK_ct, bodyK_ret, bodyK_brk, List.replicate, Nat.reduceSub, List.set, wipeR_nil, wipeR_cons, putL_nil, putL_cons])
local macro_rules | `(tactic| walk_at "evA") => `(tactic| try simp only [↓wp_var0, ↓wp_varS, ↓wp_C, ↓wp_Op, ↓wp_Un, ↓wp_aNil, ↓wp_aCons, ↓wp_And, ↓wp_Or, ↓wp_If, ↓wp_Disp, ↓wp_Call, ↓wp_CallB, ↓wp_tCmp, ↓wp_bolD, ↓wp_Chain, ↓wp_tChn, ↓wp_tru, ↓wp_tNot, ↓wp_tAnd, ↓wp_tOr, ↓wp_tYes, ↓wp_Lc, ↓wp_Meth, ↓wp_Prop, ↓wp_Bm, ↓wp_Slice, ↓wp_oNone, ↓wp_oSome, ↓intK_i, ↓wp_aSeq, ↓seqQ_l, ↓seqQ_t, ↓wp_aEnum, ↓enmK_t, ↓enmK_l, ↓wp_aZip, ↓zipK_t, ↓zipK_l, ↓wp_Seq, ↓seqK_nx, ↓seqK_ret, ↓seqK_brk, ↓seqK_ct, ↓wp_Nop, ↓wp_Break, ↓wp_Cont, ↓wp_Ret, ↓wp_RetN, ↓wp_Never, ↓wp_Expr, ↓wp_sIf, ↓wp_AsgN, ↓wp_Par, ↓parK_2, ↓wp_For, ↓wp_Sub, ↓finK_ret, ↓finK_nx, ↓wp_fn1, ↓wp_fn2, ↓wp_fn3, ↓wp_fn4, ↓wp_lift2, ↓wp_lift1, ↓wp_look2, ↓wp_liftn1, ↓wp_liftn2, ↓wp_liftn3, ↓wp_notD, ↓wp_len_t, ↓wp_len_l, ↓wp_tuple_l, ↓wp_tuple_t, ↓wp_list_l, ↓wp_list_t, ↓wp_isN, ↓wp_notN, ↓wp_T0, ↓wp_T1, ↓wp_T2, ↓wp_T3, ↓wp_T4, ↓wp_T5, ↓wp_L0, ↓wp_L1, ↓wp_L2, ↓wp_L3, ↓wp_L4, ↓wp_L5, ↓wp_newP, ↓wo_one, ↓wo_two, ↓wo_some, ↓wo_lt, ↓wo_le, ↓wo_gt, ↓wo_ge, ↓wo_sub, ↓wo_neg, ↓wo_addI, ↓wo_abs, ↓wo_int, ↓wo_intB, ↓wo_max2, ↓wo_min2, ↓wo_all, ↓wo_any, ↓wo_sum, ↓wo_eqI, ↓wo_neI, ↓truD_e, bodyK_nx, bodyK_ct, bodyK_ret, bodyK_brk, List.replicate, Nat.reduceSub, List.set, wipeR_nil, wipeR_cons, putL_nil, putL_cons, ↓wo_modA, ↓wo_divA, ↓wo_mulA, ↓wo_addSA, ↓wo_addTA, ↓wo_addLA, ↓wo_strI, ↓wo_strS, ↓wo_fmtI, ↓wo_fmtS, ↓jsK_s, ↓wp_js0, ↓wp_js1, ↓wp_Joined, ↓wp_joinL, ↓isS_str, ↓wp_mkOA])
local macro_rules | `(tactic| walk_at "evs") => `(tactic| try simp only [↓wp_var0, ↓wp_varS, ↓wp_C, ↓wp_Op, ↓wp_Un, ↓wp_aNil, ↓wp_aCons, ↓wp_And, ↓wp_Or, ↓wp_If, ↓wp_Disp, ↓wp_Call, ↓wp_CallB, ↓wp_tCmp, ↓wp_bolD, ↓wp_Chain, ↓wp_tChn, ↓wp_tru, ↓wp_tNot, ↓wp_tAnd, ↓wp_tOr, ↓wp_tYes, ↓wp_Lc, ↓wp_Meth, ↓wp_Prop, ↓wp_Bm, ↓wp_Slice, ↓wp_oNone, ↓wp_oSome, ↓intK_i, ↓wp_aSeq, ↓seqQ_l, ↓seqQ_t, ↓wp_aEnum, ↓enmK_t, ↓enmK_l, ↓wp_aZip, ↓zipK_t, ↓zipK_l, ↓seqK_ret, ↓seqK_brk, ↓seqK_ct, ↓wp_Nop, ↓wp_Break, ↓wp_Cont, ↓wp_Ret, ↓wp_RetN, ↓wp_Never, ↓wp_Expr, ↓wp_sIf, ↓wp_AsgN, ↓wp_Par, ↓parK_2, ↓wp_For, ↓wp_Sub, ↓finK_ret, ↓finK_nx, ↓wp_fn1, ↓wp_fn2, ↓wp_fn3, ↓wp_fn4, ↓wp_lift2, ↓wp_lift1, ↓wp_look2, ↓wp_liftn1, ↓wp_liftn2, ↓wp_liftn3, ↓wp_notD, ↓wp_len_t, ↓wp_len_l, ↓wp_tuple_l, ↓wp_tuple_t, ↓wp_list_l, ↓wp_list_t, ↓wp_isN, ↓wp_notN, ↓wp_T0, ↓wp_T1, ↓wp_T2, ↓wp_T3, ↓wp_T4, ↓wp_T5, ↓wp_L0, ↓wp_L1, ↓wp_L2, ↓wp_L3, ↓wp_L4, ↓wp_L5, ↓wp_newP, ↓wo_one, ↓wo_two, ↓wo_some, ↓wo_lt, ↓wo_le, ↓wo_gt, ↓wo_ge, ↓wo_sub, ↓wo_neg, ↓wo_addI, ↓wo_abs, ↓wo_int, ↓wo_intB, ↓wo_max2, ↓wo_min2, ↓wo_all, ↓wo_any, ↓wo_sum, ↓wo_eqI, ↓wo_neI, ↓truD_e, bodyK_nx, bodyK_ct, bodyK_ret, bodyK_brk, List.replicate, Nat.reduceSub, List.set, wipeR_nil, wipeR_cons, putL_nil, putL_cons])
local macro_rules | `(tactic| walk_at "evsA") => `(tactic| try simp only [↓wp_var0, ↓wp_varS, ↓wp_C, ↓wp_Op, ↓wp_Un, ↓wp_aNil, ↓wp_aCons, ↓wp_And, ↓wp_Or, ↓wp_If, ↓wp_Disp, ↓wp_Call, ↓wp_CallB, ↓wp_tCmp, ↓wp_bolD, ↓wp_Chain, ↓wp_tChn, ↓wp_tru, ↓wp_tNot, ↓wp_tAnd, ↓wp_tOr, ↓wp_tYes, ↓wp_Lc, ↓wp_Meth, ↓wp_Prop, ↓wp_Bm, ↓wp_Slice, ↓wp_oNone, ↓wp_oSome, ↓intK_i, ↓wp_aSeq, ↓seqQ_l, ↓seqQ_t, ↓wp_aEnum, ↓enmK_t, ↓enmK_l, ↓wp_aZip, ↓zipK_t, ↓zipK_l, ↓seqK_ret, ↓seqK_brk, ↓seqK_ct, ↓wp_Nop, ↓wp_Break, ↓wp_Cont, ↓wp_Ret, ↓wp_RetN, ↓wp_Never, ↓wp_Expr, ↓wp_sIf, ↓wp_AsgN, ↓wp_Par, ↓parK_2, ↓wp_For, ↓wp_Sub, ↓finK_ret, ↓finK_nx, ↓wp_fn1, ↓wp_fn2, ↓wp_fn3, ↓wp_fn4, ↓wp_lift2, ↓wp_lift1, ↓wp_look2, ↓wp_liftn1, ↓wp_liftn2, ↓wp_liftn3, ↓wp_notD, ↓wp_len_t, ↓wp_len_l, ↓wp_tuple_l, ↓wp_tuple_t, ↓wp_list_l, ↓wp_list_t, ↓wp_isN, ↓wp_notN, ↓wp_T0, ↓wp_T1, ↓wp_T2, ↓wp_T3, ↓wp_T4, ↓wp_T5, ↓wp_L0, ↓wp_L1, ↓wp_L2, ↓wp_L3, ↓wp_L4, ↓wp_L5, ↓wp_newP, ↓wo_one, ↓wo_two, ↓wo_some, ↓wo_lt, ↓wo_le, ↓wo_gt, ↓wo_ge, ↓wo_sub, ↓wo_neg, ↓wo_addI, ↓wo_abs, ↓wo_int, ↓wo_intB, ↓wo_max2, ↓wo_min2, ↓wo_all, ↓wo_any, ↓wo_sum, ↓wo_eqI, ↓wo_neI, ↓truD_e, bodyK_nx, bodyK_ct, bodyK_ret, bodyK_brk, List.replicate, Nat.reduceSub, List.set, wipeR_nil, wipeR_cons, putL_nil, putL_cons, ↓wo_modA, ↓wo_divA, ↓wo_mulA, ↓wo_addSA, ↓wo_addTA, ↓wo_addLA, ↓wo_strI, ↓wo_strS, ↓wo_fmtI, ↓wo_fmtS, ↓jsK_s, ↓wp_js0, ↓wp_js1, ↓wp_Joined, ↓wp_joinL, ↓isS_str, ↓wp_mkOA])
theorem w_right {n k : Nat} {M : Mem} {Q : D → Mem → Prop} (h : Pch n k M) (hk : k ≤ 900000)
    (q : ∀ M', Pch n (k + 100) M' → Fr n M M' → Q (.p (.bl true)) M') : wp (m__law_right [.own n] M) Q := by
  unfold m__law_right b__law_right
  rw [wp_fn1, wp_Seq]
  walk_at "evs"
  refine w_coin (t := 5) h (by omega) (by omega) (by omega) fun v M1 hv hp1 hf1 hl1 => ?_
  walk_at "evs"
  obtain ⟨s, hs0⟩ : ∃ s : Nat, (1 + (v : Int)) = (s : Int) := ⟨1 + v, by omega⟩
  rw [hs0]
  have s1 : 1 ≤ s := by omega
  have s5 : s ≤ 5 := by omega
  rw [seqK_nx, wp_Seq, wp_AsgT]
  walk_at "evs"
  refine w_plain hp1 (by omega) s1 s5 fun hs ms M2 hh hlen hm hp2 hf2 => ?_
  subst hlen
  refine ⟨_, rfl, ?_⟩
  simp only [putL_cons, putL_nil, List.set]
  rw [seqK_nx, wp_Seq]
  walk_at "evs"
  rw [wo_of (mk_Web_eq hh hm)]
  rw [seqK_nx, wp_Seq]
  have sz : hs.length ≤ sizeLine := sz_le (by omega)
  have hrange : ∀ {QA : List D → Mem → Prop} {M : Mem} {ρ : Rho}, getR ρ 1 = some (.p (.int hs.length)) → QA ((List.range hs.length).map fun i => .p (.int ((i : Nat) : Int))) M → wp (aRng1 (aCons (eVar 1) aNil) ρ M) QA := fun hρ q => by
    refine wp_aRng1 ?_
    rw [wp_aCons, wp_var hρ, wp_aNil]
    exact ⟨rfl, (rngK1 (by omega)).mpr q⟩
  refine asg_val (.p (.lst ((withOwn hs).map fun r => .tup (r.map .int)))) ?_ ?_
  · rw [wp_Lc]
    refine hrange rfl ?_
    refine wp_lcm (List.range hs.length) (fun t => .tup ((sortI (hs.getD t [] ++ [((t : Nat) : Int)])).map .int)) (fun t ht => ⟨_, rfl, ?_⟩) ?_
    · have ht := List.mem_range.mp ht
      have hsh := hh.short (hs.getD t []) (by simp [ht])
      simp only [wipeR_cons, wipeR_nil, List.set]
      unfold rowsP
      walk_at "ev"
      rw [wp_ixT (rowsP_at ht)]
      walk_at "ev"
      rw [wo_addT (sz_le (by simp only [List.length_map, List.length_cons, List.length_nil]; omega)), show (hs.getD t []).map P.int ++ [P.int ((t : Nat) : Int)] = (hs.getD t [] ++ [((t : Nat) : Int)]).map P.int by simp]
      rw [wp_of sortedA_t]
      walk_at "ev"
      simp
    · rw [wp_mkL (by simp; exact sz), withOwn_range]
      simp
  rw [seqK_nx, wp_Seq]
  simp only [List.set]
  refine asg_val (.p (sigP hs ms)) ?_ ?_
  · rw [wp_CallB, wp_aCons, wp_Lc]
    refine hrange rfl ?_
    have hW : (withOwn hs).length = hs.length := by simp [withOwn]
    refine wp_lcm (List.range hs.length) (fun t => .tup [.tup (((withOwn hs).getD t []).map .int), .int (ms.getD t 0)]) (fun t ht => ⟨_, rfl, ?_⟩) ?_
    · have ht := List.mem_range.mp ht
      have hml := hm.len
      simp only [wipeR_cons, wipeR_nil, List.set]
      unfold marksP
      walk_at "ev"
      rw [wp_ixL (x := .tup (((withOwn hs).getD t []).map .int)) (by simp [hW, ht]), wp_ixT (x := .int (ms.getD t 0)) (by simp [hml, ht])]
      walk_at "ev"
      simp
    · rw [wp_mkL (by simp; exact sz), ← sigs_range hm.len]
      walk_at "ev"
      exact ⟨rfl, trivial⟩
  rw [seqK_nx, wp_Seq]
  simp only [List.set]
  have hne : ms ≠ [] := max_pos hm hh.pos
  refine wp_ifF ?_ ?_
  · walk_at "ev"
    simp only [insW, true_and]
    rw [wp_p_heard, wp_p_marks, wp_p_size, wp_p_signals, wp_p_is_marked]
    walk_at "ev"
    rw [wo_of (show maxF [marksP ms] = _ from maxF_t hne)]
    walk_at "ev"
    rw [wo_of (ne_self (d := 4) (by
      show datL 3 _ = true
      simp [datL, datB, dat_sig (d := 0), dat_marks (d := 2), dat_rows (d := 1)]))]
    walk_at "ev"
    simp
  rw [wp_Nop, seqK_nx, wp_Seq]
  refine wp_ifF ?_ ?_
  · walk_at "ev"
    simp only [insW, true_and]
    rw [wp_p_roots, wp_root_list hh]
    walk_at "ev"
    rw [wo_of (ne_self (d := 1) (dat_tupI _))]
    walk_at "ev"
    refine ⟨by simp, fun _ => ?_⟩
    rw [wp_ownLen hh]
    unfold rowsP
    walk_at "ev"
    rw [List.map_map]
    refine wp_lcm hs (fun r => .int r.length) (fun r hr => ⟨_, rfl, ?_⟩) ?_
    · walk_at "ev"
      simp [wp_ok]
    · rw [wp_mkL (by simp; exact sz), show hs.map (fun r => P.int (r.length : Int)) = (hs.map fun r => (r.length : Int)).map .int by simp]
      walk_at "ev"
      rw [pairs_sum]
      simp
  rw [wp_Nop, seqK_nx, wp_Seq, wp_For]
  refine hrange rfl ?_
  refine wp_for (List.range hs.length) (fun pre ρ M' => M' = M2 ∧ ∃ x5 : Option D, ρ = [some (.own n), some (.p (.int hs.length)), some (.p (webP hs ms)), some (.p (.lst ((withOwn hs).map fun r => .tup (r.map .int)))), some (.p (sigP hs ms)), x5, none, none, some (.p (rowsP hs)), some (.p (marksP ms)), none]) ⟨rfl, none, rfl⟩ ?_ ?_
  · rintro pre t post e ρ M' ⟨rfl, x5, rfl⟩
    have ht : t < hs.length := by
      have : t ∈ List.range hs.length := by rw [e]; simp
      simpa using this
    have hW : (withOwn hs).length = hs.length := by simp [withOwn]
    refine ⟨_, rfl, ?_⟩
    rw [wp_Seq]
    simp only [List.set]
    refine wp_ifF ?_ ?_
    · walk_at "ev"
      simp only [insW, true_and]
      rw [wp_signal hh ht hm.len, show sigP hs ms = .tup (sigsL hs ms) from rfl, wp_ixT (sig_at ht hm.len)]
      walk_at "ev"
      rw [wo_of (ne_self (d := 3) (by simp [datB, datL, dat_ints]))]
      walk_at "ev"
      refine ⟨by simp, fun _ => ?_⟩
      rw [wp_hears hh ht hm.len, wp_ixL (x := .tup (((withOwn hs).getD t []).map .int)) (by simp [hW, ht])]
      walk_at "ev"
      rw [wo_of (ne_self (d := 1) (dat_tupI _))]
      walk_at "ev"
      simp
    rw [wp_Nop, seqK_nx, wp_Seq]
    refine wp_ifF ?_ ?_
    · walk_at "ev"
      simp only [insW, true_and]
      rw [wp_reached hh ht]
      walk_at "ev"
      rw [wo_reached hh ht]
      walk_at "ev"
      rw [wo_of (ne_self (d := 1) (dat_tupI _))]
      walk_at "ev"
      simp
    rw [wp_Nop, seqK_nx]
    refine wp_ifF ?_ ?_
    · rw [wp_tCmp, wp_Lc]
      refine hrange rfl ?_
      refine wp_lcp (List.range hs.length) (fun o => decide (((o : Nat) : Int) ∈ hs.getD t [])) (fun o => .int o) (fun o ho => ⟨_, rfl, ?_⟩) ?_
      · simp only [wipeR_cons, wipeR_nil, List.set]
        walk_at "ev"
        rw [ownIn_at (fun {Q} => wp_inPair hh)]
        walk_at "ev"
        simp only [pairs_mem ht]
        simp
      · have hx := row_filter (r := hs.getD t []) (n := hs.length) (hh.ris _ (by simp [ht])) (hh.rng _ (by simp [ht]))
        have hsh := hh.short (hs.getD t []) (by simp [ht])
        rw [show (((List.range hs.length).filter fun o => decide (((o : Nat) : Int) ∈ hs.getD t [])).map fun o => P.int ((o : Nat) : Int)) = (hs.getD t []).map .int by
          conv => rhs; rw [← hx]
          rw [List.map_map]
          rfl]
        rw [wp_mkL (by simp only [List.length_map]; exact sz_le (by omega))]
        unfold rowsP
        walk_at "ev"
        rw [wp_ixT (rowsP_at ht)]
        walk_at "ev"
        rw [wo_of (ne_self (d := 1) (dat_lstI _))]
        walk_at "ev"
        simp
    rw [wp_Nop, bodyK_nx]
    exact ⟨rfl, _, rfl⟩
  rintro ρ M' ⟨rfl, x5, rfl⟩
  rw [seqK_nx, wp_Seq]
  walk_at "evs"
  refine (wp_mkL (ps := oddL hs.length) (by simp [oddL, sizeLine_eq])).mpr ?_
  refine w_any hp2 (by omega) (by simp [oddL]) (by simp [oddL]) fun odd hodd M3 hp3 hf3 hl3 => ?_
  rw [seqK_nx, wp_Seq]
  refine wp_ifF ?_ ?_
  · walk_at "ev"
    rw [ownIn_at (fun {Q} => wp_odd hh hodd)]
    walk_at "ev"
    refine ⟨by simp, fun _ => ?_⟩
    rw [ownStr_at hh hm, wp_text hh hm]
    walk_at "ev"
    rw [wo_neS text_ok text_ok]
    walk_at "ev"
    simp
  rw [wp_Nop, seqK_nx, wp_Seq]
  walk_at "evs"
  refine w_plain hp3 (by omega) s1 s5 fun hs' ms' M4 hh' hlen' hm' hp4 hf4 => ?_
  rw [seqK_nx, wp_Seq]
  refine wp_ifF ?_ ?_
  · walk_at "ev"
    rw [wp_web_of hh' (by rw [hlen']; exact hm'), wp_cmpW]
    walk_at "ev"
    have e1 : eqP (.tup [rowsP hs', marksP ms']) (.tup [rowsP hs, marksP ms]) = some (.bl (decide (hs' = hs ∧ ms' = ms))) := by
      rw [eqP_dat (d := 3) (by simp [datB, datL, dat_rows (d := 0), dat_marks (d := 1)]) (by simp [datB, datL, dat_rows (d := 0), dat_marks (d := 1)])]
      simp only [toPy, toPyL, eqv_tup, eqvAll_cons, eqvAll_nil, Bool.and_true, eqv_rows, marksP, eqvAll_ints]
      by_cases a : hs' = hs <;> by_cases b : ms' = ms <;> simp [a, b]
    rw [wo_of e1]
    walk_at "ev"
    rw [wo_of (ne_self (d := 0) (by simp [datB]))]
    walk_at "ev"
    refine ⟨by simp, fun _ => ?_⟩
    rw [wp_cmpT]
    walk_at "ev"
    simp
  rw [wp_Nop, seqK_nx]
  walk_at "evs"
  rw [wo_of (show maxF [marksP ms] = _ from maxF_t hne)]
  walk_at "evs"
  have fin : Q (.p (.bl true)) M4 := q M4 (hp4.mono (by omega)) (((hf1.trans hf2).trans hf3).trans hf4)
  constructor
  · intro hc
    rw [hc]
    exact fin
  · intro hc
    rw [wo_of (mk_Web1_eq hh), wp_cmpW]
    have := max_zero hm hh.pos (by simpa using hc)
    rw [decide_eq_true ⟨rfl, this⟩]
    exact fin
end DL

set_option maxHeartbeats 4000000
namespace DL
open PySem PySem.Spec PyProof.Rows L2
local macro_rules | `(tactic| walk_at "ev") => `(tactic| try simp only [↓wp_var0, ↓wp_varS, ↓wp_C, ↓wp_Op, ↓wp_Un, ↓wp_aNil, ↓wp_aCons, ↓wp_And, ↓wp_Or, ↓wp_If, ↓wp_Disp, ↓wp_Call, ↓wp_CallB, ↓wp_tCmp, ↓wp_bolD, ↓wp_Chain, ↓wp_tChn, ↓wp_tru, ↓wp_tNot, ↓wp_tAnd, ↓wp_tOr, ↓wp_tYes, ↓wp_Lc, ↓wp_Meth, ↓wp_Prop, ↓wp_Bm, ↓wp_Slice, ↓wp_oNone, ↓wp_oSome, ↓intK_i, ↓wp_aSeq, ↓seqQ_l, ↓seqQ_t, ↓wp_aEnum, ↓enmK_t, ↓enmK_l, ↓wp_aZip, ↓zipK_t, ↓zipK_l, ↓wp_Seq, ↓seqK_nx, ↓seqK_ret, ↓seqK_brk, ↓seqK_ct, ↓wp_Nop, ↓wp_Break, ↓wp_Cont, ↓wp_Ret, ↓wp_RetN, ↓wp_Never, ↓wp_Expr, ↓wp_sIf, ↓wp_AsgN, ↓wp_Par, ↓parK_2, ↓wp_For, ↓wp_Sub, ↓finK_ret, ↓finK_nx, ↓wp_fn1, ↓wp_fn2, ↓wp_fn3, ↓wp_fn4, ↓wp_lift2, ↓wp_lift1, ↓wp_look2, ↓wp_liftn1, ↓wp_liftn2, ↓wp_liftn3, ↓wp_notD, ↓wp_len_t, ↓wp_len_l, ↓wp_tuple_l, ↓wp_tuple_t, ↓wp_list_l, ↓wp_list_t, ↓wp_isN, ↓wp_notN, ↓wp_T0, ↓wp_T1, ↓wp_T2, ↓wp_T3, ↓wp_T4, ↓wp_T5, ↓wp_L0, ↓wp_L1, ↓wp_L2, ↓wp_L3, ↓wp_L4, ↓wp_L5, ↓wp_newP, ↓wo_one, ↓wo_two, ↓wo_some, ↓wo_lt, ↓wo_le, ↓wo_gt, ↓wo_ge, ↓wo_sub, ↓wo_neg, ↓wo_addI, ↓wo_abs, ↓wo_int, ↓wo_intB, ↓wo_max2, ↓wo_min2, ↓wo_all, ↓wo_any, ↓wo_sum, ↓wo_eqI, ↓wo_neI, ↓truD_e, bodyK_nx, bodyK_ct, bodyK_ret, bodyK_brk, List.replicate, Nat.reduceSub, List.set, wipeR_nil, wipeR_cons, putL_nil, putL_cons])
local macro_rules | `(tactic| walk_at "evA") => `(tactic| try simp only [↓wp_var0, ↓wp_varS, ↓wp_C, ↓wp_Op, ↓wp_Un, ↓wp_aNil, ↓wp_aCons, ↓wp_And, ↓wp_Or, ↓wp_If, ↓wp_Disp, ↓wp_Call, ↓wp_CallB, ↓wp_tCmp, ↓wp_bolD, ↓wp_Chain, ↓wp_tChn, ↓wp_tru, ↓wp_tNot, ↓wp_tAnd, ↓wp_tOr, ↓wp_tYes, ↓wp_Lc, ↓wp_Meth, ↓wp_Prop, ↓wp_Bm, ↓wp_Slice, ↓wp_oNone, ↓wp_oSome, ↓intK_i, ↓wp_aSeq, ↓seqQ_l, ↓seqQ_t, ↓wp_aEnum, ↓enmK_t, ↓enmK_l, ↓wp_aZip, ↓zipK_t, ↓zipK_l, ↓wp_Seq, ↓seqK_nx, ↓seqK_ret, ↓seqK_brk, ↓seqK_ct, ↓wp_Nop, ↓wp_Break, ↓wp_Cont, ↓wp_Ret, ↓wp_RetN, ↓wp_Never, ↓wp_Expr, ↓wp_sIf, ↓wp_AsgN, ↓wp_Par, ↓parK_2, ↓wp_For, ↓wp_Sub, ↓finK_ret, ↓finK_nx, ↓wp_fn1, ↓wp_fn2, ↓wp_fn3, ↓wp_fn4, ↓wp_lift2, ↓wp_lift1, ↓wp_look2, ↓wp_liftn1, ↓wp_liftn2, ↓wp_liftn3, ↓wp_notD, ↓wp_len_t, ↓wp_len_l, ↓wp_tuple_l, ↓wp_tuple_t, ↓wp_list_l, ↓wp_list_t, ↓wp_isN, ↓wp_notN, ↓wp_T0, ↓wp_T1, ↓wp_T2, ↓wp_T3, ↓wp_T4, ↓wp_T5, ↓wp_L0, ↓wp_L1, ↓wp_L2, ↓wp_L3, ↓wp_L4, ↓wp_L5, ↓wp_newP, ↓wo_one, ↓wo_two, ↓wo_some, ↓wo_lt, ↓wo_le, ↓wo_gt, ↓wo_ge, ↓wo_sub, ↓wo_neg, ↓wo_addI, ↓wo_abs, ↓wo_int, ↓wo_intB, ↓wo_max2, ↓wo_min2, ↓wo_all, ↓wo_any, ↓wo_sum, ↓wo_eqI, ↓wo_neI, ↓truD_e, bodyK_nx, bodyK_ct, bodyK_ret, bodyK_brk, List.replicate, Nat.reduceSub, List.set, wipeR_nil, wipeR_cons, putL_nil, putL_cons, ↓wo_modA, ↓wo_divA, ↓wo_mulA, ↓wo_addSA, ↓wo_addTA, ↓wo_addLA, ↓wo_strI, ↓wo_strS, ↓wo_fmtI, ↓wo_fmtS, ↓jsK_s, ↓wp_js0, ↓wp_js1, ↓wp_Joined, ↓wp_joinL, ↓isS_str, ↓wp_mkOA])
local macro_rules | `(tactic| walk_at "evs") => `(tactic| try simp only [↓wp_var0, ↓wp_varS, ↓wp_C, ↓wp_Op, ↓wp_Un, ↓wp_aNil, ↓wp_aCons, ↓wp_And, ↓wp_Or, ↓wp_If, ↓wp_Disp, ↓wp_Call, ↓wp_CallB, ↓wp_tCmp, ↓wp_bolD, ↓wp_Chain, ↓wp_tChn, ↓wp_tru, ↓wp_tNot, ↓wp_tAnd, ↓wp_tOr, ↓wp_tYes, ↓wp_Lc, ↓wp_Meth, ↓wp_Prop, ↓wp_Bm, ↓wp_Slice, ↓wp_oNone, ↓wp_oSome, ↓intK_i, ↓wp_aSeq, ↓seqQ_l, ↓seqQ_t, ↓wp_aEnum, ↓enmK_t, ↓enmK_l, ↓wp_aZip, ↓zipK_t, ↓zipK_l, ↓seqK_ret, ↓seqK_brk, ↓seqK_ct, ↓wp_Nop, ↓wp_Break, ↓wp_Cont, ↓wp_Ret, ↓wp_RetN, ↓wp_Never, ↓wp_Expr, ↓wp_sIf, ↓wp_AsgN, ↓wp_Par, ↓parK_2, ↓wp_For, ↓wp_Sub, ↓finK_ret, ↓finK_nx, ↓wp_fn1, ↓wp_fn2, ↓wp_fn3, ↓wp_fn4, ↓wp_lift2, ↓wp_lift1, ↓wp_look2, ↓wp_liftn1, ↓wp_liftn2, ↓wp_liftn3, ↓wp_notD, ↓wp_len_t, ↓wp_len_l, ↓wp_tuple_l, ↓wp_tuple_t, ↓wp_list_l, ↓wp_list_t, ↓wp_isN, ↓wp_notN, ↓wp_T0, ↓wp_T1, ↓wp_T2, ↓wp_T3, ↓wp_T4, ↓wp_T5, ↓wp_L0, ↓wp_L1, ↓wp_L2, ↓wp_L3, ↓wp_L4, ↓wp_L5, ↓wp_newP, ↓wo_one, ↓wo_two, ↓wo_some, ↓wo_lt, ↓wo_le, ↓wo_gt, ↓wo_ge, ↓wo_sub, ↓wo_neg, ↓wo_addI, ↓wo_abs, ↓wo_int, ↓wo_intB, ↓wo_max2, ↓wo_min2, ↓wo_all, ↓wo_any, ↓wo_sum, ↓wo_eqI, ↓wo_neI, ↓truD_e, bodyK_nx, bodyK_ct, bodyK_ret, bodyK_brk, List.replicate, Nat.reduceSub, List.set, wipeR_nil, wipeR_cons, putL_nil, putL_cons])
local macro_rules | `(tactic| walk_at "evsA") => `(tactic| try simp only [↓wp_var0, ↓wp_varS, ↓wp_C, ↓wp_Op, ↓wp_Un, ↓wp_aNil, ↓wp_aCons, ↓wp_And, ↓wp_Or, ↓wp_If, ↓wp_Disp, ↓wp_Call, ↓wp_CallB, ↓wp_tCmp, ↓wp_bolD, ↓wp_Chain, ↓wp_tChn, ↓wp_tru, ↓wp_tNot, ↓wp_tAnd, ↓wp_tOr, ↓wp_tYes, ↓wp_Lc, ↓wp_Meth, ↓wp_Prop, ↓wp_Bm, ↓wp_Slice, ↓wp_oNone, ↓wp_oSome, ↓intK_i, ↓wp_aSeq, ↓seqQ_l, ↓seqQ_t, ↓wp_aEnum, ↓enmK_t, ↓enmK_l, ↓wp_aZip, ↓zipK_t, ↓zipK_l, ↓seqK_ret, ↓seqK_brk, ↓seqK_ct, ↓wp_Nop, ↓wp_Break, ↓wp_Cont, ↓wp_Ret, ↓wp_RetN, ↓wp_Never, ↓wp_Expr, ↓wp_sIf, ↓wp_AsgN, ↓wp_Par, ↓parK_2, ↓wp_For, ↓wp_Sub, ↓finK_ret, ↓finK_nx, ↓wp_fn1, ↓wp_fn2, ↓wp_fn3, ↓wp_fn4, ↓wp_lift2, ↓wp_lift1, ↓wp_look2, ↓wp_liftn1, ↓wp_liftn2, ↓wp_liftn3, ↓wp_notD, ↓wp_len_t, ↓wp_len_l, ↓wp_tuple_l, ↓wp_tuple_t, ↓wp_list_l, ↓wp_list_t, ↓wp_isN, ↓wp_notN, ↓wp_T0, ↓wp_T1, ↓wp_T2, ↓wp_T3, ↓wp_T4, ↓wp_T5, ↓wp_L0, ↓wp_L1, ↓wp_L2, ↓wp_L3, ↓wp_L4, ↓wp_L5, ↓wp_newP, ↓wo_one, ↓wo_two, ↓wo_some, ↓wo_lt, ↓wo_le, ↓wo_gt, ↓wo_ge, ↓wo_sub, ↓wo_neg, ↓wo_addI, ↓wo_abs, ↓wo_int, ↓wo_intB, ↓wo_max2, ↓wo_min2, ↓wo_all, ↓wo_any, ↓wo_sum, ↓wo_eqI, ↓wo_neI, ↓truD_e, bodyK_nx, bodyK_ct, bodyK_ret, bodyK_brk, List.replicate, Nat.reduceSub, List.set, wipeR_nil, wipeR_cons, putL_nil, putL_cons, ↓wo_modA, ↓wo_divA, ↓wo_mulA, ↓wo_addSA, ↓wo_addTA, ↓wo_addLA, ↓wo_strI, ↓wo_strS, ↓wo_fmtI, ↓wo_fmtS, ↓jsK_s, ↓wp_js0, ↓wp_js1, ↓wp_Joined, ↓wp_joinL, ↓isS_str, ↓wp_mkOA])
def ringH : List (List Int) := [[4], [0], [1], [2], [3]]
def ringM : List Int := [0, 0, 5, 0, 0]
theorem ring_ok : HOk ringH := by
  refine ⟨by decide, by decide, by decide, by decide, by decide, fun t r h => ?_⟩
  have : t < 5 := (List.getElem?_eq_some_iff.mp h).1
  match t, this with
  | 0, _ => cases h; decide
  | 1, _ => cases h; decide
  | 2, _ => cases h; decide
  | 3, _ => cases h; decide
  | 4, _ => cases h; decide
theorem ring_mk : MOk ringH.length ringM := ⟨rfl, by decide⟩
theorem sort_of {xs ys : List Int} (h : ys.Perm xs) (h2 : ys.Pairwise (· ≤ ·)) : sortI xs = ys := (sort_one h h2).symm
theorem ring_led : ∀ t : Nat, t < 5 → ledS ringH t = [0, 1, 2, 3, 4] := by
  intro t ht
  unfold ledS
  match t, ht with
  | 0, _ => exact sort_of (by decide) (by decide)
  | 1, _ => exact sort_of (by decide) (by decide)
  | 2, _ => exact sort_of (by decide) (by decide)
  | 3, _ => exact sort_of (by decide) (by decide)
  | 4, _ => exact sort_of (by decide) (by decide)
theorem ring_roots : rootsL ringH = [0, 1, 2, 3, 4] := by
  have e : (List.range ringH.length).map (fun i => ((i : Nat) : Int)) = [0, 1, 2, 3, 4] := by decide
  unfold rootsL
  rw [e, List.filter_eq_self]
  intro a ha
  have : ∃ t : Nat, t < 5 ∧ a = t := by
    simp at ha
    rcases ha with rfl | rfl | rfl | rfl | rfl
    · exact ⟨0, by decide, rfl⟩
    · exact ⟨1, by decide, rfl⟩
    · exact ⟨2, by decide, rfl⟩
    · exact ⟨3, by decide, rfl⟩
    · exact ⟨4, by decide, rfl⟩
  obtain ⟨t, ht, rfl⟩ := this
  rw [ring_led t ht]
  rfl
def ringS : Str := "web of 5 threads: 0 hears 4, 1 hears 0, 2 hears 1, 3 hears 2, 4 hears 3; marks 0 0 5 0 0"
theorem ring_text : textS ringH ringM = ringS := by decide +kernel
theorem law_wp (ns : List Int) (hl : ns.length ≤ 63) : wp (m_law [.own 0] (scrM ns)) fun d _ => d = .p (.bl true) := by
  unfold m_law b_law
  rw [wp_fn1, wp_Seq]
  walk_at "evs"
  refine wp_aRng1 ?_
  have h0 : (scrM ns)[0]? = some (.scr (ns.map fun i => .p (.int i))) := rfl
  walk_at "evs"
  rw [wp_lenO (itemsD_scr h0)]
  walk_at "evs"
  have hcount : ∀ L : Nat, ∃ c : Nat, (if (if (L : Int) < 4 then (L : Int) else 4) > 1 then (if (L : Int) < 4 then (L : Int) else 4) else 1) = (c : Int) ∧ c ≤ 4 := fun L => by
    by_cases h4 : (L : Int) < 4
    · rw [if_pos h4]
      by_cases h1 : (L : Int) > 1
      · exact ⟨L, by rw [if_pos h1], by omega⟩
      · exact ⟨1, by rw [if_neg h1]; rfl, by omega⟩
    · rw [if_neg h4]
      exact ⟨4, by rw [if_pos (by decide)]; rfl, by omega⟩
  obtain ⟨c, hc, hc4⟩ := hcount (ns.map fun i => D.p (P.int i)).length
  rw [hc]
  refine ⟨rfl, (rngK1 (by omega)).mpr ?_⟩
  refine wp_for (List.range c) (fun pre ρ M' => M'[0]? = some (.scr (ns.map fun i => .p (.int i))) ∧ ∃ x1 x4 x5 : Option D, ρ = [some (.own 0), x1, none, none, x4, x5]) ⟨h0, none, none, none, rfl⟩ ?_ ?_
  · rintro pre t post e ρ M' ⟨hM, x1, x4, x5, rfl⟩
    have ht : t < c := by
      have : t ∈ List.range c := by rw [e]; simp
      simpa using this
    refine ⟨_, rfl, ?_⟩
    rw [wp_Seq]
    walk_at "evs"
    refine w_pouch hM (by omega) fun M1 hp hx => ?_
    obtain ⟨o, rfl⟩ := hx
    have hlen : 0 < M'.length := (List.getElem?_eq_some_iff.mp hM).1
    rw [seqK_nx]
    walk_at "evs"
    refine wp_aRng1 ?_
    walk_at "evs"
    refine ⟨rfl, (rngK1 (n := 4) (by omega)).mpr ?_⟩
    refine wp_for (List.range 4) (fun pre1 ρ M2 => M2[0]? = some (.scr (ns.map fun i => .p (.int i))) ∧ Pch M'.length (pre1.length * 100) M2 ∧ ∃ x5 : Option D, ρ = [some (.own 0), some (.p (.int t)), none, none, some (.own M'.length), x5]) ⟨by rw [List.getElem?_append_left hlen]; exact hM, by simpa using hp, _, rfl⟩ ?_ ?_
    · rintro pre1 t1 post1 e1 ρ M2 ⟨hM2, hp2, y5, rfl⟩
      have hl1 : pre1.length < 4 := by
        have := congrArg List.length e1
        simp at this
        omega
      refine ⟨_, rfl, ?_⟩
      walk_at "evs"
      refine w_right hp2 (by omega) fun M3 hp3 hf3 => ?_
      walk_at "evs"
      refine ⟨by simp, fun _ => ?_⟩
      refine ⟨?_, hp3.mono (by simp; omega), _, rfl⟩
      rw [hf3.keep 0 (by omega) (by have := hp2.lt; omega)]
      exact hM2
    · rintro ρ M2 ⟨hM2, hp2, y5, rfl⟩
      exact ⟨hM2, _, _, _, rfl⟩
  · rintro ρ M' ⟨hM, x1, x4, x5, rfl⟩
    rw [seqK_nx, wp_Seq]
    walk_at "evs"
    rw [wo_of (show mk_Web [.tup [.tup [.int 4], .tup [.int 0], .tup [.int 1], .tup [.int 2], .tup [.int 3]], .tup [.int 0, .int 0, .int 5, .int 0, .int 0]] = _ from mk_Web_eq ring_ok ring_mk)]
    rw [seqK_nx, wp_Seq]
    walk_at "evs"
    rw [seqK_nx]
    walk_at "evs"
    simp only [insW, true_and]
    rw [wp_p_roots, ring_roots]
    walk_at "evs"
    rw [wo_of (show eqP (.tup ([0, 1, 2, 3, 4].map .int)) (.tup [.int 0, .int 1, .int 2, .int 3, .int 4]) = _ from eqP_tt (ys := [0, 1, 2, 3, 4]))]
    walk_at "evs"
    refine ⟨fun _ => ?_, by simp⟩
    rw [ownStr_at ring_ok ring_mk, ring_text]
    walk_at "evs"
    rw [wo_eqS (x := ringS) (sOk_of _) (sOk_of _)]
    walk_at "evs"
    refine ⟨fun _ => ?_, by simp [ringS]⟩
    rw [show (D.p (P.int 2)) = D.p (P.int ((2 : Nat) : Int)) from rfl, wp_reached ring_ok (by decide), ring_led 2 (by decide)]
    walk_at "evs"
    rw [wo_of (show eqP (.tup ([0, 1, 2, 3, 4].map .int)) (.tup [.int 0, .int 1, .int 2, .int 3, .int 4]) = _ from eqP_tt (ys := [0, 1, 2, 3, 4]))]
    simp
theorem law_true (ns : List Int) (hl : ns.length ≤ 63) : ∃ M', m_law [.own 0] (scrM ns) = some (.ok (.p (.bl true)), M') := by
  obtain ⟨d, M', e, rfl⟩ := law_wp ns hl
  exact ⟨M', e⟩
end DL

set_option maxHeartbeats 0
namespace DL
open PySem PySem.Spec PyProof.Rows L2
def top (i : Nat) : Stmt := PySem.Challenge.pw_poolmaps_k01_webs_told_by_walks.main.body.getD i (.Pass ⟨0, 0, 0, 0⟩)
def d__law_pouch : DefX := ⟨(Loc1.glo "_law_pouch"), "_law_pouch", "_law_pouch", defArgs (top 25), defBody (top 25), defScope (top 25), []⟩
def d__law_coin : DefX := ⟨(Loc1.glo "_law_coin"), "_law_coin", "_law_coin", defArgs (top 26), defBody (top 26), defScope (top 26), []⟩
def d__law_any : DefX := ⟨(Loc1.glo "_law_any"), "_law_any", "_law_any", defArgs (top 27), defBody (top 27), defScope (top 27), []⟩
def d__law_marks : DefX := ⟨(Loc1.glo "_law_marks"), "_law_marks", "_law_marks", defArgs (top 29), defBody (top 29), defScope (top 29), []⟩
def d__law_heard : DefX := ⟨(Loc1.glo "_law_heard"), "_law_heard", "_law_heard", defArgs (top 28), defBody (top 28), defScope (top 28), []⟩
def d__law_plain_web : DefX := ⟨(Loc1.glo "_law_plain_web"), "_law_plain_web", "_law_plain_web", defArgs (top 30), defBody (top 30), defScope (top 30), []⟩
def d_is_integer : DefX := ⟨(Loc1.glo "is_integer"), "is_integer", "is_integer", defArgs (top 9), defBody (top 9), defScope (top 9), []⟩
def d_is_between : DefX := ⟨(Loc1.glo "is_between"), "is_between", "is_between", defArgs (top 10), defBody (top 10), defScope (top 10), []⟩
def d_is_index : DefX := ⟨(Loc1.glo "is_index"), "is_index", "is_index", defArgs (top 11), defBody (top 11), defScope (top 11), []⟩
def d_are_indices : DefX := ⟨(Loc1.glo "are_indices"), "are_indices", "are_indices", defArgs (top 13), defBody (top 13), defScope (top 13), []⟩
def d_are_rising : DefX := ⟨(Loc1.glo "are_rising"), "are_rising", "are_rising", defArgs (top 14), defBody (top 14), defScope (top 14), []⟩
def d_are_heard : DefX := ⟨(Loc1.glo "are_heard"), "are_heard", "are_heard", defArgs (top 17), defBody (top 17), defScope (top 17), []⟩
def d_is_mark : DefX := ⟨(Loc1.glo "is_mark"), "is_mark", "is_mark", defArgs (top 12), defBody (top 12), defScope (top 12), []⟩
def d_are_marks : DefX := ⟨(Loc1.glo "are_marks"), "are_marks", "are_marks", defArgs (top 18), defBody (top 18), defScope (top 18), []⟩
def d_with_itself : DefX := ⟨(Loc1.glo "with_itself"), "with_itself", "with_itself", defArgs (top 19), defBody (top 19), defScope (top 19), []⟩
def d_reached_from : DefX := ⟨(Loc1.glo "reached_from"), "reached_from", "reached_from", defArgs (top 20), defBody (top 20), defScope (top 20), []⟩
def d_roots_of : DefX := ⟨(Loc1.glo "roots_of"), "roots_of", "roots_of", defArgs (top 21), defBody (top 21), defScope (top 21), []⟩
def d_Web___init__ : DefX := ⟨(Loc1.meth "Web" "__init__"), "__init__", "Web.__init__", defArgs (mem (top 22) 1), defBody (mem (top 22) 1), defScope (mem (top 22) 1), [.non]⟩
def d_Web_is_marked : DefX := ⟨(Loc1.prop "Web" "is_marked"), "is_marked", "Web.is_marked", defArgs (mem (top 22) 7), defBody (mem (top 22) 7), defScope (mem (top 22) 7), []⟩
def d_Web_signals : DefX := ⟨(Loc1.prop "Web" "signals"), "signals", "Web.signals", defArgs (mem (top 22) 5), defBody (mem (top 22) 5), defScope (mem (top 22) 5), []⟩
def d_Web_size : DefX := ⟨(Loc1.prop "Web" "size"), "size", "Web.size", defArgs (mem (top 22) 4), defBody (mem (top 22) 4), defScope (mem (top 22) 4), []⟩
def d_Web_marks : DefX := ⟨(Loc1.prop "Web" "marks"), "marks", "Web.marks", defArgs (mem (top 22) 3), defBody (mem (top 22) 3), defScope (mem (top 22) 3), []⟩
def d_Web_heard : DefX := ⟨(Loc1.prop "Web" "heard"), "heard", "Web.heard", defArgs (mem (top 22) 2), defBody (mem (top 22) 2), defScope (mem (top 22) 2), []⟩
def d_Web_roots : DefX := ⟨(Loc1.prop "Web" "roots"), "roots", "Web.roots", defArgs (mem (top 22) 6), defBody (mem (top 22) 6), defScope (mem (top 22) 6), []⟩
def d__law_led : DefX := ⟨(Loc1.glo "_law_led"), "_law_led", "_law_led", defArgs (top 32), defBody (top 32), defScope (top 32), []⟩
def d__law_root_list : DefX := ⟨(Loc1.glo "_law_root_list"), "_law_root_list", "_law_root_list", defArgs (top 33), defBody (top 33), defScope (top 33), []⟩
def d_Web___len__ : DefX := ⟨(Loc1.meth "Web" "__len__"), "__len__", "Web.__len__", defArgs (mem (top 22) 24), defBody (mem (top 22) 24), defScope (mem (top 22) 24), []⟩
def d_require_index : DefX := ⟨(Loc1.glo "require_index"), "require_index", "require_index", defArgs (top 15), defBody (top 15), defScope (top 15), []⟩
def d_Web_signal : DefX := ⟨(Loc1.meth "Web" "signal"), "signal", "Web.signal", defArgs (mem (top 22) 8), defBody (mem (top 22) 8), defScope (mem (top 22) 8), []⟩
def d_Web_hears : DefX := ⟨(Loc1.meth "Web" "hears"), "hears", "Web.hears", defArgs (mem (top 22) 9), defBody (mem (top 22) 9), defScope (mem (top 22) 9), []⟩
def d_Web_reached : DefX := ⟨(Loc1.meth "Web" "reached"), "reached", "Web.reached", defArgs (mem (top 22) 10), defBody (mem (top 22) 10), defScope (mem (top 22) 10), []⟩
def d_is_plain_pair : DefX := ⟨(Loc1.glo "is_plain_pair"), "is_plain_pair", "is_plain_pair", defArgs (top 23), defBody (top 23), defScope (top 23), []⟩
def d_Web___contains__ : DefX := ⟨(Loc1.meth "Web" "__contains__"), "__contains__", "Web.__contains__", defArgs (mem (top 22) 23), defBody (mem (top 22) 23), defScope (mem (top 22) 23), []⟩
def d_Web___str__ : DefX := ⟨(Loc1.meth "Web" "__str__"), "__str__", "Web.__str__", defArgs (mem (top 22) 26), defBody (mem (top 22) 26), defScope (mem (top 22) 26), []⟩
def d__law_text : DefX := ⟨(Loc1.glo "_law_text"), "_law_text", "_law_text", defArgs (top 34), defBody (top 34), defScope (top 34), []⟩
def d_Web___eq__ : DefX := ⟨(Loc1.meth "Web" "__eq__"), "__eq__", "Web.__eq__", defArgs (mem (top 22) 25), defBody (mem (top 22) 25), defScope (mem (top 22) 25), []⟩
def d__law_web_of : DefX := ⟨(Loc1.glo "_law_web_of"), "_law_web_of", "_law_web_of", defArgs (top 31), defBody (top 31), defScope (top 31), []⟩
def d__law_right : DefX := ⟨(Loc1.glo "_law_right"), "_law_right", "_law_right", defArgs (top 35), defBody (top 35), defScope (top 35), []⟩
def d_law : DefX := ⟨(Loc1.glo "law"), "law", "law", defArgs (top 36), defBody (top 36), defScope (top 36), []⟩

def TB : Tab where
  glos := (["_law_pouch", "_law_coin", "_law_any", "_law_marks", "_law_heard", "_law_plain_web", "is_integer", "is_between", "is_index", "are_indices", "are_rising", "are_heard", "is_mark", "are_marks", "with_itself", "reached_from", "roots_of", "_law_led", "_law_root_list", "require_index", "is_plain_pair", "_law_text", "_law_web_of", "_law_right", "law", "Web"] : List Str)
  frees := ["abs", "all", "bool", "enumerate", "int", "isinstance", "len", "list", "max", "min", "range", "sorted", "str", "sum", "tuple", "zip"]
  consts := [("GREATEST", 1000000000000000000000000000000000000000000000000000000000000), ("MAX_MARK", 9999), ("MAX_THREADS", 5)]
  cls := [⟨"Web", ["own_heard", "own_is_marked", "own_marks", "own_pairs", "own_roots", "own_signals", "own_size"], ["heard", "marks", "size", "signals", "roots", "is_marked"], ["__init__", "signal", "hears", "reached", "__contains__", "__len__", "__eq__", "__str__"]⟩]
  fns := ([d__law_pouch, d__law_coin, d__law_any, d__law_marks, d__law_heard, d__law_plain_web, d_is_integer, d_is_between, d_is_index, d_are_indices, d_are_rising, d_are_heard, d_is_mark, d_are_marks, d_with_itself, d_reached_from, d_roots_of, d_Web___init__, d_Web_is_marked, d_Web_signals, d_Web_size, d_Web_marks, d_Web_heard, d_Web_roots, d__law_led, d__law_root_list, d_Web___len__, d_require_index, d_Web_signal, d_Web_hears] : List DefX) ++ ([d_Web_reached, d_is_plain_pair, d_Web___contains__, d_Web___str__, d__law_text, d_Web___eq__, d__law_web_of, d__law_right, d_law] : List DefX)
abbrev Rw : PySem.W.OpenRow := PySem.W.OpenLaw.row PySem.Challenge.rw_poolmaps_k01_webs_told_by_walks
abbrev hkX : PySem.W.Hook := hookX 5 TB
def obX (s : PySem.W.SharedT) : AlX := obsXG 5 TB (HandSHeadRun.getT s)
theorem obX_eq (s : PySem.W.SharedT) : obX s = hkX.obs s.abs := obsXG_eq (HandSHeadRun.getT_eq s)
def looseN : List Str := (["_wall", "PoolError", "InvalidWeb", "InvalidNumber", "GREATEST", "MAX_MARK", "MAX_THREADS", "is_integer", "is_between", "is_index", "is_mark", "are_indices", "are_rising", "require_index", "are_heard", "are_marks", "with_itself", "reached_from", "roots_of", "Web", "is_plain_pair", "_law_pouch", "_law_coin", "_law_any", "_law_heard", "_law_marks", "_law_plain_web", "_law_web_of", "_law_led", "_law_root_list", "_law_text", "_law_right"] : List Str)
theorem runX (w : World) : HandSHeadRun.RunEq Rw (PySem.W.view Rw.prog [36]) hkX obX 6000 looseN w := by
  intro os
  kernel_rfl

end DL

set_option maxHeartbeats 4000000
namespace DL
open PySem PySem.Spec PyProof.Rows L2
section
variable {P : Program} {w : World} {K : PySem.W.Frag} {mg : Str → Option Value} {base : Heap}
theorem sc__law_pouch : FnScope ["_law_script", "_law_at", "_law_cell", "_law_great", "_law_start"] ["_law_script", "_law_at"] (defScope (top 25)) := ⟨rfl, rfl, rfl, by decide +kernel, rfl, by decide +kernel, by decide +kernel⟩
theorem fk__law_pouch (hd : HdX TB K mg) {fd : FuncData} (F : FunD K "_law_pouch" "_law_pouch" (defArgs (top 25)) (defBody (top 25)) (defScope (top 25)) [] [] ((Loc1.glo "_law_pouch").at_ K) fd) : FnOk P w K mg base CX0 1 ((Loc1.glo "_law_pouch").at_ K) fd ["_law_script", "_law_at"] (SpM (gK K) m__law_pouch) := by
  exact fn_ok (g := gK K) F sc__law_pouch fun cdv A outer s H E hr => (ds_cons (ds_set (ps_set (i := 2) sc__law_pouch.nd rfl (by first | exact .inl rfl | exact .inr rfl) (d_if (dt_cmp oo_lt (d_var (pv 1)) (d_callB (fun _ hc ha => pe_callB hc rfl (hd.free "len") (by decide +kernel) ha) cc_len (da_cons (d_var (pv 0)) da_nil)) (nomark _)) (d_callTy (fun _ hc ha => pe_callTy hc rfl (hd.free "int") (by decide +kernel) ha) cc_int (da_cons (d_ix (d_var (pv 0)) (d_var (pv 1)) (fun _ _ => rfl)) da_nil)) (d_op oo_add (d_op oo_mul d_int (d_var (pv 1))) d_int))))
    (ds_cons (ds_set (ps_set (i := 3) sc__law_pouch.nd rfl (by first | exact .inl rfl | exact .inr rfl) (d_op oo_mod (d_callB (fun _ hc ha => pe_callB hc rfl (hd.free "abs") (by decide +kernel) ha) cc_abs (da_cons (d_var (pv 2)) da_nil)) (d_op oo_pow d_int d_int))))
    (ds_cons (ds_set (ps_set (i := 4) sc__law_pouch.nd rfl (by first | exact .inl rfl | exact .inr rfl) (d_op oo_add (d_op oo_add (d_op oo_add (d_op oo_mul (d_op oo_mod (d_var (pv 3)) d_int) d_int) (d_op oo_mul d_int (d_var (pv 1)))) (d_op oo_mul d_int (d_callTy (fun _ hc ha => pe_callTy hc rfl (hd.free "int") (by decide +kernel) ha) cc_int (da_cons (d_cmp oo_lt (d_var (pv 2)) d_int (nomark _)) da_nil)))) d_int)))
    (ds_one (ds_ret (d_lstO (da_cons (d_op oo_mod (d_callB (fun _ hc ha => pe_callB hc rfl (hd.free "max") (by decide +kernel) ha) (cc_max rfl hr.u1) (da_cons d_int (da_cons (d_op oo_sub (d_callB (fun _ hc ha => pe_callB hc rfl (hd.free "abs") (by decide +kernel) ha) cc_abs (da_cons (d_var (pv 2)) da_nil)) (d_op oo_pow d_int d_int)) da_nil))) (d_op oo_mul (d_op oo_pow d_int d_int) (d_op oo_pow d_int d_int))) (da_cons (d_var (pv 4)) (da_cons d_int da_nil)))))))))
theorem ok__law_pouch (hd : HdX TB K mg) : FnR P w K mg base CX0 1 ((Loc1.glo "_law_pouch").at_ K) (SpM (gK K) m__law_pouch) := by
  obtain ⟨fd, F⟩ := hd.def_ 0
  exact fn_raw (g := gK K) (fk__law_pouch hd F) (FunD.bindsN F fun _ _ _ _ _ _ us hl => match us, hl with | [_, _], _ => rfl)

theorem sc__law_coin : FnScope ["_law_pouch_here", "_law_total", "_law_one", "_law_two", "_law_found"] ["_law_pouch_here", "_law_total"] (defScope (top 26)) := ⟨rfl, rfl, rfl, by decide +kernel, rfl, by decide +kernel, by decide +kernel⟩
theorem fk__law_coin (hd : HdX TB K mg) {fd : FuncData} (F : FunD K "_law_coin" "_law_coin" (defArgs (top 26)) (defBody (top 26)) (defScope (top 26)) [] [] ((Loc1.glo "_law_coin").at_ K) fd) : FnOk P w K mg base CX0 1 ((Loc1.glo "_law_coin").at_ K) fd ["_law_pouch_here", "_law_total"] (SpM (gK K) m__law_coin) := by
  exact fn_ok (g := gK K) F sc__law_coin fun cdv A outer s H E hr => (ds_cons (ds_if (dt_cmp oo_gt (d_ix (d_var (pv 0)) d_int (fun _ _ => rfl)) d_int (nomark _))
    (ds_cons (ds_set (ps_set (i := 4) sc__law_coin.nd rfl (by first | exact .inl rfl | exact .inr rfl) (d_op oo_mod (d_callTy (fun _ hc ha => pe_callTy hc rfl (hd.free "int") (by decide +kernel) ha) cc_int (da_cons (d_ix (d_var (pv 0)) d_int (fun _ _ => rfl)) da_nil)) (d_var (pv 1)))))
    (ds_cons (ds_sub (d_op oo_div (d_ix (d_var (pv 0)) d_int (fun _ _ => rfl)) (d_var (pv 1))) (d_var (pv 0)) d_int (pg_sub (d_var (pv 0)) d_int set_list))
    (ds_one (ds_ret (d_var (pv 4))))))
    ds_nil)
    (ds_cons (ds_sub (d_op oo_add (d_ix (d_var (pv 0)) d_int (fun _ _ => rfl)) d_int) (d_var (pv 0)) d_int (pg_sub (d_var (pv 0)) d_int set_list))
    (ds_cons (ds_set (ps_set (i := 2) sc__law_coin.nd rfl (by first | exact .inl rfl | exact .inr rfl) (d_op oo_mod (d_callTy (fun _ hc ha => pe_callTy hc rfl (hd.free "int") (by decide +kernel) ha) cc_int (da_cons (d_op oo_add (d_ix (d_var (pv 0)) d_int (fun _ _ => rfl)) (d_op oo_mul d_int (d_ix (d_var (pv 0)) d_int (fun _ _ => rfl)))) da_nil)) d_int)))
    (ds_cons (ds_set (ps_set (i := 3) sc__law_coin.nd rfl (by first | exact .inl rfl | exact .inr rfl) (d_op oo_mod (d_callTy (fun _ hc ha => pe_callTy hc rfl (hd.free "int") (by decide +kernel) ha) cc_int (da_cons (d_op oo_add (d_op oo_mul (d_var (pv 2)) (d_var (pv 2))) (d_op oo_mul d_int (d_ix (d_var (pv 0)) d_int (fun _ _ => rfl)))) da_nil)) d_int)))
    (ds_one (ds_ret (d_op oo_mod (d_callTy (fun _ hc ha => pe_callTy hc rfl (hd.free "int") (by decide +kernel) ha) cc_int (da_cons (d_op oo_div (d_callTy (fun _ hc ha => pe_callTy hc rfl (hd.free "int") (by decide +kernel) ha) cc_int (da_cons (d_op oo_add (d_op oo_mul (d_var (pv 3)) d_int) (d_var (pv 2))) da_nil)) d_int) da_nil)) (d_var (pv 1)))))))))
theorem ok__law_coin (hd : HdX TB K mg) : FnR P w K mg base CX0 1 ((Loc1.glo "_law_coin").at_ K) (SpM (gK K) m__law_coin) := by
  obtain ⟨fd, F⟩ := hd.def_ 1
  exact fn_raw (g := gK K) (fk__law_coin hd F) (FunD.bindsN F fun _ _ _ _ _ _ us hl => match us, hl with | [_, _], _ => rfl)

theorem sc__law_any : FnScope ["_law_pouch_here", "_law_items"] ["_law_pouch_here", "_law_items"] (defScope (top 27)) := ⟨rfl, rfl, rfl, by decide +kernel, rfl, by decide +kernel, by decide +kernel⟩
theorem fk__law_any (hd : HdX TB K mg) {fd : FuncData} (F : FunD K "_law_any" "_law_any" (defArgs (top 27)) (defBody (top 27)) (defScope (top 27)) [] [] ((Loc1.glo "_law_any").at_ K) fd) : FnOk P w K mg base CX0 2 ((Loc1.glo "_law_any").at_ K) fd ["_law_pouch_here", "_law_items"] (SpM (gK K) m__law_any) := by
  exact fn_ok (g := gK K) F sc__law_any fun cdv A outer s H E hr => (ds_one (ds_ret (d_ix (d_var (pv 1)) (d_call (ok__law_coin hd) (hr.mono (by decide)) rfl (hd.glo "_law_coin") (hd.keep "_law_coin") (da_cons (d_var (pv 0)) (da_cons (d_callB (fun _ hc ha => pe_callB hc rfl (hd.free "len") (by decide +kernel) ha) cc_len (da_cons (d_var (pv 1)) da_nil)) da_nil))) (fun _ _ => rfl))))
theorem ok__law_any (hd : HdX TB K mg) : FnR P w K mg base CX0 2 ((Loc1.glo "_law_any").at_ K) (SpM (gK K) m__law_any) := by
  obtain ⟨fd, F⟩ := hd.def_ 2
  exact fn_raw (g := gK K) (fk__law_any hd F) (FunD.bindsN F fun _ _ _ _ _ _ us hl => match us, hl with | [_, _], _ => rfl)

theorem sc__law_marks : FnScope ["_law_pouch_here", "_law_size", "_law_thread"] ["_law_pouch_here", "_law_size"] (defScope (top 29)) := ⟨rfl, rfl, rfl, by decide +kernel, rfl, by decide +kernel, by decide +kernel⟩
theorem fk__law_marks (hd : HdX TB K mg) {fd : FuncData} (F : FunD K "_law_marks" "_law_marks" (defArgs (top 29)) (defBody (top 29)) (defScope (top 29)) [] [] ((Loc1.glo "_law_marks").at_ K) fd) : FnOk P w K mg base CX0 3 ((Loc1.glo "_law_marks").at_ K) fd ["_law_pouch_here", "_law_size"] (SpM (gK K) m__law_marks) := by
  exact fn_ok (g := gK K) F sc__law_marks fun cdv A outer s H E hr => (ds_cons (ds_if (dt_cmp oo_gt (d_call (ok__law_coin hd) (hr.mono (by decide)) rfl (hd.glo "_law_coin") (hd.keep "_law_coin") (da_cons (d_var (pv 0)) (da_cons d_int da_nil))) d_int (nomark _))
    (ds_one (ds_ret (d_op oo_mul (d_tup (da_cons d_int da_nil)) (d_var (pv 1)))))
    ds_nil)
    (ds_one (ds_ret (d_callTy (fun _ hc ha => pe_callTy hc rfl (hd.free "tuple") (by decide +kernel) ha) cc_tuple (da_cons (d_lc mkL_ok (own := [("_law_thread", 2)]) (b := (.n 2)) (t := tYesM) (e := (eCall m__law_any (aCons (eVar 0) (aCons (eDisp mkL (aCons (eC (.int (0))) (aCons (eC (.int (0))) (aCons (eC (.int (1))) (aCons (eC (.int (7))) (aCons (eC (.int (9999))) aNil)))))) aNil)))) rfl sc__law_marks.nd (di_rng1 (pi_range1 rfl (hd.free "range") (da_cons (d_var (pv 1)) da_nil))) (blk_ok (by kernel_rfl)) (fun _ _ _ _ _ => (pg_n (pg_name (i := 2) sc__law_marks.nd rfl (by first | exact .inl rfl | exact .inr rfl)))) (fun _ _ _ _ _ => dts_nil) (fun _ _ _ _ _ => (d_call (ok__law_any hd) (hr.mono (by decide)) rfl (hd.glo "_law_any") (hd.keep "_law_any") (da_cons (d_var (pv 0)) (da_cons (d_lst (da_cons d_int (da_cons d_int (da_cons d_int (da_cons d_int (da_cons d_int da_nil)))))) da_nil)))) (by decide)) da_nil)))))
theorem ok__law_marks (hd : HdX TB K mg) : FnR P w K mg base CX0 3 ((Loc1.glo "_law_marks").at_ K) (SpM (gK K) m__law_marks) := by
  obtain ⟨fd, F⟩ := hd.def_ 3
  exact fn_raw (g := gK K) (fk__law_marks hd F) (FunD.bindsN F fun _ _ _ _ _ _ us hl => match us, hl with | [_, _], _ => rfl)

theorem sc__law_heard : FnScope ["_law_pouch_here", "_law_size", "_law_thread", "_law_found", "_law_share", "_law_other"] ["_law_pouch_here", "_law_size"] (defScope (top 28)) := ⟨rfl, rfl, rfl, by decide +kernel, rfl, by decide +kernel, by decide +kernel⟩
theorem fk__law_heard (hd : HdX TB K mg) {fd : FuncData} (F : FunD K "_law_heard" "_law_heard" (defArgs (top 28)) (defBody (top 28)) (defScope (top 28)) [] [] ((Loc1.glo "_law_heard").at_ K) fd) : FnOk P w K mg base CX0 2 ((Loc1.glo "_law_heard").at_ K) fd ["_law_pouch_here", "_law_size"] (SpM (gK K) m__law_heard) := by
  exact fn_ok (g := gK K) F sc__law_heard fun cdv A outer s H E hr => (ds_cons (by first | exact ds_par (ps_par (i := 3) (j := 4) rfl sc__law_heard.nd rfl rfl (by decide) rfl rfl (da_cons (d_lstO da_nil) (da_cons (d_op oo_add d_int (d_call (ok__law_coin hd) (hr.mono (by decide)) rfl (hd.glo "_law_coin") (hd.keep "_law_coin") (da_cons (d_var (pv 0)) (da_cons d_int da_nil)))) da_nil)) rfl) | exact ds_parC (da_cons (d_lstO da_nil) (da_cons (d_op oo_add d_int (d_call (ok__law_coin hd) (hr.mono (by decide)) rfl (hd.glo "_law_coin") (hd.keep "_law_coin") (da_cons (d_var (pv 0)) (da_cons d_int da_nil)))) da_nil)) (pg_t (is := [3, 4]) rfl (pgs_cons (pg_name (i := 3) sc__law_heard.nd rfl (by first | exact .inl rfl | exact .inr rfl)) (pgs_cons (pg_name (i := 4) sc__law_heard.nd rfl (by first | exact .inl rfl | exact .inr rfl)) pgs_nil))))
    (ds_cons (ds_for (b := (.n 2)) (ps_for PassesOwn.never rfl (di_rng1 (pi_range1 rfl (hd.free "range") (da_cons (d_var (pv 1)) da_nil))) (pg_n (pg_name (i := 2) sc__law_heard.nd rfl (by first | exact .inl rfl | exact .inr rfl)))
    (ds_one (ds_expr (d_bm (to := fun _ _ _ => True) (ty_list rfl) (pe_bm PySem.F.plainAttrs_list PySem.F.slot_list_append PySem.F.type_list_append mm_append (d_var (pv 3)) (da_cons (d_callTy (fun _ hc ha => pe_callTy hc rfl (hd.free "tuple") (by decide +kernel) ha) cc_tuple (da_cons (d_lc mkL_ok (own := [("_law_other", 5)]) (b := (.n 5)) (t := (tAndM (tCmp (look2 neP) (eVar 5) (eVar 2)) (tCmp (look2 eqP) (eCall m__law_coin (aCons (eVar 0) (aCons (eVar 4) aNil))) (eC (.int (0)))))) (e := (eVar 5)) rfl sc__law_heard.nd (di_rng1 (pi_range1 rfl (hd.free "range") (da_cons (d_var (pv 1)) da_nil))) (blk_ok (by kernel_rfl)) (fun _ _ _ _ _ => (pg_n (pg_name (i := 5) sc__law_heard.nd rfl (by first | exact .inl rfl | exact .inr rfl)))) (fun _ _ _ _ _ => (dts_one (PW.pt (dw_and (dt_cmp (oo_neL hr.units) (d_var (pv 5)) (d_var (pv 2)) (nomark _)) (dw_and1 (dt_cmp (oo_eqL hr.units) (d_call (ok__law_coin hd) (hr.mono (by decide)) rfl (hd.glo "_law_coin") (hd.keep "_law_coin") (da_cons (d_var (pv 0)) (da_cons (d_var (pv 4)) da_nil))) d_int (nomark _))))))) (fun _ _ _ _ _ => (d_var (pv 5))) (by decide)) da_nil)) da_nil)))))))
    (ds_one (ds_ret (d_callTy (fun _ hc ha => pe_callTy hc rfl (hd.free "tuple") (by decide +kernel) ha) cc_tuple (da_cons (d_var (pv 3)) da_nil))))))
theorem ok__law_heard (hd : HdX TB K mg) : FnR P w K mg base CX0 2 ((Loc1.glo "_law_heard").at_ K) (SpM (gK K) m__law_heard) := by
  obtain ⟨fd, F⟩ := hd.def_ 4
  exact fn_raw (g := gK K) (fk__law_heard hd F) (FunD.bindsN F fun _ _ _ _ _ _ us hl => match us, hl with | [_, _], _ => rfl)

theorem sc__law_plain_web : FnScope ["_law_pouch_here", "_law_size"] ["_law_pouch_here", "_law_size"] (defScope (top 30)) := ⟨rfl, rfl, rfl, by decide +kernel, rfl, by decide +kernel, by decide +kernel⟩
theorem fk__law_plain_web (hd : HdX TB K mg) {fd : FuncData} (F : FunD K "_law_plain_web" "_law_plain_web" (defArgs (top 30)) (defBody (top 30)) (defScope (top 30)) [] [] ((Loc1.glo "_law_plain_web").at_ K) fd) : FnOk P w K mg base CX0 4 ((Loc1.glo "_law_plain_web").at_ K) fd ["_law_pouch_here", "_law_size"] (SpM (gK K) m__law_plain_web) := by
  exact fn_ok (g := gK K) F sc__law_plain_web fun cdv A outer s H E hr => (ds_one (ds_ret (d_tup (da_cons (d_call (ok__law_heard hd) (hr.mono (by decide)) rfl (hd.glo "_law_heard") (hd.keep "_law_heard") (da_cons (d_var (pv 0)) (da_cons (d_var (pv 1)) da_nil))) (da_cons (d_call (ok__law_marks hd) (hr.mono (by decide)) rfl (hd.glo "_law_marks") (hd.keep "_law_marks") (da_cons (d_var (pv 0)) (da_cons (d_var (pv 1)) da_nil))) da_nil)))))
theorem ok__law_plain_web (hd : HdX TB K mg) : FnR P w K mg base CX0 4 ((Loc1.glo "_law_plain_web").at_ K) (SpM (gK K) m__law_plain_web) := by
  obtain ⟨fd, F⟩ := hd.def_ 5
  exact fn_raw (g := gK K) (fk__law_plain_web hd F) (FunD.bindsN F fun _ _ _ _ _ _ us hl => match us, hl with | [_, _], _ => rfl)

theorem sc_is_integer : FnScope ["value"] ["value"] (defScope (top 9)) := ⟨rfl, rfl, rfl, by decide +kernel, rfl, by decide +kernel, by decide +kernel⟩
theorem fk_is_integer (hd : HdX TB K mg) {fd : FuncData} (F : FunD K "is_integer" "is_integer" (defArgs (top 9)) (defBody (top 9)) (defScope (top 9)) [] [] ((Loc1.glo "is_integer").at_ K) fd) : FnOk P w K mg base CX0 1 ((Loc1.glo "is_integer").at_ K) fd ["value"] (SpM (gK K) m_is_integer) := by
  obtain ⟨_, h_GREATEST⟩ := hd.int "GREATEST" 1000000000000000000000000000000000000000000000000000000000000
  exact fn_ok (g := gK K) F sc_is_integer fun cdv A outer s H E hr => (ds_one (ds_ret (d_and (d_callB (fun _ hc ha => pe_callB hc rfl (hd.free "isinstance") (by decide +kernel) ha) (cc_isi hd.isi) (da_cons (d_var (pv 0)) (da_cons (d_ty rfl (hd.free "int") (by decide +kernel)) da_nil))) (d_and (d_not (d_callB (fun _ hc ha => pe_callB hc rfl (hd.free "isinstance") (by decide +kernel) ha) (cc_isi hd.isi) (da_cons (d_var (pv 0)) (da_cons (d_ty rfl (hd.free "bool") (by decide +kernel)) da_nil)))) (d_one (d_chain oo_lt oo_lt (d_un oo_neg (d_globI rfl (h_GREATEST))) (d_var (pv 0)) (d_globI rfl (h_GREATEST))))))))
theorem ok_is_integer (hd : HdX TB K mg) : FnR P w K mg base CX0 1 ((Loc1.glo "is_integer").at_ K) (SpM (gK K) m_is_integer) := by
  obtain ⟨fd, F⟩ := hd.def_ 6
  exact fn_raw (g := gK K) (fk_is_integer hd F) (FunD.bindsN F fun _ _ _ _ _ _ us hl => match us, hl with | [_], _ => rfl)

theorem sc_is_between : FnScope ["value", "low", "high"] ["value", "low", "high"] (defScope (top 10)) := ⟨rfl, rfl, rfl, by decide +kernel, rfl, by decide +kernel, by decide +kernel⟩
theorem fk_is_between (hd : HdX TB K mg) {fd : FuncData} (F : FunD K "is_between" "is_between" (defArgs (top 10)) (defBody (top 10)) (defScope (top 10)) [] [] ((Loc1.glo "is_between").at_ K) fd) : FnOk P w K mg base CX0 2 ((Loc1.glo "is_between").at_ K) fd ["value", "low", "high"] (SpM (gK K) m_is_between) := by
  exact fn_ok (g := gK K) F sc_is_between fun cdv A outer s H E hr => (ds_one (ds_ret (d_and (d_call (ok_is_integer hd) (hr.mono (by decide)) rfl (hd.glo "is_integer") (hd.keep "is_integer") (da_cons (d_var (pv 0)) da_nil)) (d_one (d_chain oo_le oo_le (d_var (pv 1)) (d_var (pv 0)) (d_var (pv 2)))))))
theorem ok_is_between (hd : HdX TB K mg) : FnR P w K mg base CX0 2 ((Loc1.glo "is_between").at_ K) (SpM (gK K) m_is_between) := by
  obtain ⟨fd, F⟩ := hd.def_ 7
  exact fn_raw (g := gK K) (fk_is_between hd F) (FunD.bindsN F fun _ _ _ _ _ _ us hl => match us, hl with | [_, _, _], _ => rfl)

theorem sc_is_index : FnScope ["value", "many"] ["value", "many"] (defScope (top 11)) := ⟨rfl, rfl, rfl, by decide +kernel, rfl, by decide +kernel, by decide +kernel⟩
theorem fk_is_index (hd : HdX TB K mg) {fd : FuncData} (F : FunD K "is_index" "is_index" (defArgs (top 11)) (defBody (top 11)) (defScope (top 11)) [] [] ((Loc1.glo "is_index").at_ K) fd) : FnOk P w K mg base CX0 3 ((Loc1.glo "is_index").at_ K) fd ["value", "many"] (SpM (gK K) m_is_index) := by
  exact fn_ok (g := gK K) F sc_is_index fun cdv A outer s H E hr => (ds_one (ds_ret (d_call (ok_is_between hd) (hr.mono (by decide)) rfl (hd.glo "is_between") (hd.keep "is_between") (da_cons (d_var (pv 0)) (da_cons d_int (da_cons (d_op oo_sub (d_var (pv 1)) d_int) da_nil))))))
theorem ok_is_index (hd : HdX TB K mg) : FnR P w K mg base CX0 3 ((Loc1.glo "is_index").at_ K) (SpM (gK K) m_is_index) := by
  obtain ⟨fd, F⟩ := hd.def_ 8
  exact fn_raw (g := gK K) (fk_is_index hd F) (FunD.bindsN F fun _ _ _ _ _ _ us hl => match us, hl with | [_, _], _ => rfl)

theorem sc_are_indices : FnScope ["value", "many", "one"] ["value", "many"] (defScope (top 13)) := ⟨rfl, rfl, rfl, by decide +kernel, rfl, by decide +kernel, by decide +kernel⟩
theorem fk_are_indices (hd : HdX TB K mg) {fd : FuncData} (F : FunD K "are_indices" "are_indices" (defArgs (top 13)) (defBody (top 13)) (defScope (top 13)) [] [] ((Loc1.glo "are_indices").at_ K) fd) : FnOk P w K mg base CX0 4 ((Loc1.glo "are_indices").at_ K) fd ["value", "many"] (SpM (gK K) m_are_indices) := by
  exact fn_ok (g := gK K) F sc_are_indices fun cdv A outer s H E hr => (ds_one (ds_ret (d_and (d_callB (fun _ hc ha => pe_callB hc rfl (hd.free "isinstance") (by decide +kernel) ha) (cc_isi hd.isi) (da_cons (d_var (pv 0)) (da_cons (d_ty rfl (hd.free "tuple") (by decide +kernel)) da_nil))) (d_one (d_callB (fun _ hc ha => pe_callB hc rfl (hd.free "all") (by decide +kernel) ha) (cc_all rfl) (da_cons (d_lc mkL_ok (own := [("one", 2)]) (b := (.n 2)) (t := tYesM) (e := (eCall m_is_index (aCons (eVar 2) (aCons (eVar 1) aNil)))) rfl sc_are_indices.nd (di_seq (d_var (pv 0))) (blk_ok (by kernel_rfl)) (fun _ _ _ _ _ => (pg_n (pg_name (i := 2) sc_are_indices.nd rfl (by first | exact .inl rfl | exact .inr rfl)))) (fun _ _ _ _ _ => dts_nil) (fun _ _ _ _ _ => (d_call (ok_is_index hd) (hr.mono (by decide)) rfl (hd.glo "is_index") (hd.keep "is_index") (da_cons (d_var (pv 2)) (da_cons (d_var (pv 1)) da_nil)))) (by decide)) da_nil))))))
theorem ok_are_indices (hd : HdX TB K mg) : FnR P w K mg base CX0 4 ((Loc1.glo "are_indices").at_ K) (SpM (gK K) m_are_indices) := by
  obtain ⟨fd, F⟩ := hd.def_ 9
  exact fn_raw (g := gK K) (fk_are_indices hd F) (FunD.bindsN F fun _ _ _ _ _ _ us hl => match us, hl with | [_, _], _ => rfl)

theorem sc_are_rising : FnScope ["value", "many", "one", "other"] ["value", "many"] (defScope (top 14)) := ⟨rfl, rfl, rfl, by decide +kernel, rfl, by decide +kernel, by decide +kernel⟩
theorem fk_are_rising (hd : HdX TB K mg) {fd : FuncData} (F : FunD K "are_rising" "are_rising" (defArgs (top 14)) (defBody (top 14)) (defScope (top 14)) [] [] ((Loc1.glo "are_rising").at_ K) fd) : FnOk P w K mg base CX0 5 ((Loc1.glo "are_rising").at_ K) fd ["value", "many"] (SpM (gK K) m_are_rising) := by
  exact fn_ok (g := gK K) F sc_are_rising fun cdv A outer s H E hr => (ds_one (ds_ret (d_and (d_call (ok_are_indices hd) (hr.mono (by decide)) rfl (hd.glo "are_indices") (hd.keep "are_indices") (da_cons (d_var (pv 0)) (da_cons (d_var (pv 1)) da_nil))) (d_one (d_callB (fun _ hc ha => pe_callB hc rfl (hd.free "all") (by decide +kernel) ha) (cc_all rfl) (da_cons (d_lc mkL_ok (own := [("one", 2), ("other", 3)]) (b := (.t [2, 3])) (t := tYesM) (e := (eOp (lift2 ltI) (eVar 2) (eVar 3))) rfl sc_are_rising.nd (di_zip (RZ.pi_zipA rfl (hd.free "zip") (da_cons (d_var (pv 0)) (da_cons (d_slice (d_var (pv 0)) (do_some d_int) do_none) da_nil)))) (blk_ok (by kernel_rfl)) (fun _ _ _ _ _ => (pg_t (is := [2, 3]) rfl (pgs_cons (pg_name (i := 2) sc_are_rising.nd rfl (by first | exact .inl rfl | exact .inr rfl)) (pgs_cons (pg_name (i := 3) sc_are_rising.nd rfl (by first | exact .inl rfl | exact .inr rfl)) pgs_nil)))) (fun _ _ _ _ _ => dts_nil) (fun _ _ _ _ _ => (d_cmp oo_lt (d_var (pv 2)) (d_var (pv 3)) (nomark _))) (by decide)) da_nil))))))
theorem ok_are_rising (hd : HdX TB K mg) : FnR P w K mg base CX0 5 ((Loc1.glo "are_rising").at_ K) (SpM (gK K) m_are_rising) := by
  obtain ⟨fd, F⟩ := hd.def_ 10
  exact fn_raw (g := gK K) (fk_are_rising hd F) (FunD.bindsN F fun _ _ _ _ _ _ us hl => match us, hl with | [_, _], _ => rfl)

theorem sc_are_heard : FnScope ["value", "thread", "one"] ["value"] (defScope (top 17)) := ⟨rfl, rfl, rfl, by decide +kernel, rfl, by decide +kernel, by decide +kernel⟩
theorem fk_are_heard (hd : HdX TB K mg) {fd : FuncData} (F : FunD K "are_heard" "are_heard" (defArgs (top 17)) (defBody (top 17)) (defScope (top 17)) [] [] ((Loc1.glo "are_heard").at_ K) fd) : FnOk P w K mg base CX0 6 ((Loc1.glo "are_heard").at_ K) fd ["value"] (SpM (gK K) m_are_heard) := by
  obtain ⟨_, h_MAX_THREADS⟩ := hd.int "MAX_THREADS" 5
  exact fn_ok (g := gK K) F sc_are_heard fun cdv A outer s H E hr => (ds_cons (ds_if (PW.pt (dw_or (dt_not (dt_tru (d_callB (fun _ hc ha => pe_callB hc rfl (hd.free "isinstance") (by decide +kernel) ha) (cc_isi hd.isi) (da_cons (d_var (pv 0)) (da_cons (d_ty rfl (hd.free "tuple") (by decide +kernel)) da_nil))))) (dw_or1 (dt_not (dt_chain oo_le oo_le d_int (d_callB (fun _ hc ha => pe_callB hc rfl (hd.free "len") (by decide +kernel) ha) cc_len (da_cons (d_var (pv 0)) da_nil)) (d_globI rfl (h_MAX_THREADS)))))))
    (ds_one (ds_ret d_bl))
    ds_nil)
    (ds_one (ds_ret (d_callB (fun _ hc ha => pe_callB hc rfl (hd.free "all") (by decide +kernel) ha) (cc_all rfl) (da_cons (d_lc mkL_ok (own := [("thread", 1), ("one", 2)]) (b := (.t [1, 2])) (t := tYesM) (e := (eAnd (eCall m_are_rising (aCons (eVar 2) (aCons (eCallB lenO (aCons (eVar 0) aNil)) aNil))) (eOp (look2 ninP) (eVar 1) (eVar 2)))) rfl sc_are_heard.nd (di_enum (pi_enumA rfl (hd.free "enumerate") (da_cons (d_var (pv 0)) da_nil))) (blk_ok (by kernel_rfl)) (fun _ _ _ _ _ => (pg_t (is := [1, 2]) rfl (pgs_cons (pg_name (i := 1) sc_are_heard.nd rfl (by first | exact .inl rfl | exact .inr rfl)) (pgs_cons (pg_name (i := 2) sc_are_heard.nd rfl (by first | exact .inl rfl | exact .inr rfl)) pgs_nil)))) (fun _ _ _ _ _ => dts_nil) (fun _ _ _ _ _ => (d_and (d_call (ok_are_rising hd) (hr.mono (by decide)) rfl (hd.glo "are_rising") (hd.keep "are_rising") (da_cons (d_var (pv 2)) (da_cons (d_callB (fun _ hc ha => pe_callB hc rfl (hd.free "len") (by decide +kernel) ha) cc_len (da_cons (d_var (pv 0)) da_nil)) da_nil))) (d_one (d_cmp (oo_ninL hr.u65) (d_var (pv 1)) (d_var (pv 2)) (by with_unfolding_all rfl))))) (by decide)) da_nil)))))
theorem ok_are_heard (hd : HdX TB K mg) : FnR P w K mg base CX0 6 ((Loc1.glo "are_heard").at_ K) (SpM (gK K) m_are_heard) := by
  obtain ⟨fd, F⟩ := hd.def_ 11
  exact fn_raw (g := gK K) (fk_are_heard hd F) (FunD.bindsN F fun _ _ _ _ _ _ us hl => match us, hl with | [_], _ => rfl)

theorem sc_is_mark : FnScope ["value"] ["value"] (defScope (top 12)) := ⟨rfl, rfl, rfl, by decide +kernel, rfl, by decide +kernel, by decide +kernel⟩
theorem fk_is_mark (hd : HdX TB K mg) {fd : FuncData} (F : FunD K "is_mark" "is_mark" (defArgs (top 12)) (defBody (top 12)) (defScope (top 12)) [] [] ((Loc1.glo "is_mark").at_ K) fd) : FnOk P w K mg base CX0 3 ((Loc1.glo "is_mark").at_ K) fd ["value"] (SpM (gK K) m_is_mark) := by
  obtain ⟨_, h_MAX_MARK⟩ := hd.int "MAX_MARK" 9999
  exact fn_ok (g := gK K) F sc_is_mark fun cdv A outer s H E hr => (ds_one (ds_ret (d_call (ok_is_between hd) (hr.mono (by decide)) rfl (hd.glo "is_between") (hd.keep "is_between") (da_cons (d_var (pv 0)) (da_cons d_int (da_cons (d_globI rfl (h_MAX_MARK)) da_nil))))))
theorem ok_is_mark (hd : HdX TB K mg) : FnR P w K mg base CX0 3 ((Loc1.glo "is_mark").at_ K) (SpM (gK K) m_is_mark) := by
  obtain ⟨fd, F⟩ := hd.def_ 12
  exact fn_raw (g := gK K) (fk_is_mark hd F) (FunD.bindsN F fun _ _ _ _ _ _ us hl => match us, hl with | [_], _ => rfl)

theorem sc_are_marks : FnScope ["value", "size", "mark"] ["value", "size"] (defScope (top 18)) := ⟨rfl, rfl, rfl, by decide +kernel, rfl, by decide +kernel, by decide +kernel⟩
theorem fk_are_marks (hd : HdX TB K mg) {fd : FuncData} (F : FunD K "are_marks" "are_marks" (defArgs (top 18)) (defBody (top 18)) (defScope (top 18)) [] [] ((Loc1.glo "are_marks").at_ K) fd) : FnOk P w K mg base CX0 4 ((Loc1.glo "are_marks").at_ K) fd ["value", "size"] (SpM (gK K) m_are_marks) := by
  exact fn_ok (g := gK K) F sc_are_marks fun cdv A outer s H E hr => (ds_one (ds_ret (d_and (d_callB (fun _ hc ha => pe_callB hc rfl (hd.free "isinstance") (by decide +kernel) ha) (cc_isi hd.isi) (da_cons (d_var (pv 0)) (da_cons (d_ty rfl (hd.free "tuple") (by decide +kernel)) da_nil))) (d_and (d_cmp (oo_eqL hr.units) (d_callB (fun _ hc ha => pe_callB hc rfl (hd.free "len") (by decide +kernel) ha) cc_len (da_cons (d_var (pv 0)) da_nil)) (d_var (pv 1)) (nomark _)) (d_one (d_callB (fun _ hc ha => pe_callB hc rfl (hd.free "all") (by decide +kernel) ha) (cc_all rfl) (da_cons (d_lc mkL_ok (own := [("mark", 2)]) (b := (.n 2)) (t := tYesM) (e := (eCall m_is_mark (aCons (eVar 2) aNil))) rfl sc_are_marks.nd (di_seq (d_var (pv 0))) (blk_ok (by kernel_rfl)) (fun _ _ _ _ _ => (pg_n (pg_name (i := 2) sc_are_marks.nd rfl (by first | exact .inl rfl | exact .inr rfl)))) (fun _ _ _ _ _ => dts_nil) (fun _ _ _ _ _ => (d_call (ok_is_mark hd) (hr.mono (by decide)) rfl (hd.glo "is_mark") (hd.keep "is_mark") (da_cons (d_var (pv 2)) da_nil))) (by decide)) da_nil)))))))
theorem ok_are_marks (hd : HdX TB K mg) : FnR P w K mg base CX0 4 ((Loc1.glo "are_marks").at_ K) (SpM (gK K) m_are_marks) := by
  obtain ⟨fd, F⟩ := hd.def_ 13
  exact fn_raw (g := gK K) (fk_are_marks hd F) (FunD.bindsN F fun _ _ _ _ _ _ us hl => match us, hl with | [_, _], _ => rfl)

theorem sc_with_itself : FnScope ["heard", "thread", "one"] ["heard"] (defScope (top 19)) := ⟨rfl, rfl, rfl, by decide +kernel, rfl, by decide +kernel, by decide +kernel⟩
theorem fk_with_itself (hd : HdX TB K mg) {fd : FuncData} (F : FunD K "with_itself" "with_itself" (defArgs (top 19)) (defBody (top 19)) (defScope (top 19)) [] [] ((Loc1.glo "with_itself").at_ K) fd) : FnOk P w K mg base CX0 1 ((Loc1.glo "with_itself").at_ K) fd ["heard"] (SpM (gK K) m_with_itself) := by
  exact fn_ok (g := gK K) F sc_with_itself fun cdv A outer s H E hr => (ds_one (ds_ret (d_callTy (fun _ hc ha => pe_callTy hc rfl (hd.free "tuple") (by decide +kernel) ha) cc_tuple (da_cons (d_lc mkL_ok (own := [("thread", 1), ("one", 2)]) (b := (.t [1, 2])) (t := tYesM) (e := (eCallB tupleF (aCons (eCallB sortedA (aCons (eDisp mkL (aStar (eVar 2) (aCons (eVar 1) aNil))) aNil)) aNil))) rfl sc_with_itself.nd (di_enum (pi_enumA rfl (hd.free "enumerate") (da_cons (d_var (pv 0)) da_nil))) (blk_ok (by kernel_rfl)) (fun _ _ _ _ _ => (pg_t (is := [1, 2]) rfl (pgs_cons (pg_name (i := 1) sc_with_itself.nd rfl (by first | exact .inl rfl | exact .inr rfl)) (pgs_cons (pg_name (i := 2) sc_with_itself.nd rfl (by first | exact .inl rfl | exact .inr rfl)) pgs_nil)))) (fun _ _ _ _ _ => dts_nil) (fun _ _ _ _ _ => (d_callTy (fun _ hc ha => pe_callTy hc rfl (hd.free "tuple") (by decide +kernel) ha) cc_tuple (da_cons (d_callB (fun _ hc ha => pe_callB hc rfl (hd.free "sorted") (by decide +kernel) ha) (cc_sortedA rfl) (da_cons (d_lst (da_star (d_var (pv 2)) (da_cons (d_var (pv 1)) da_nil))) da_nil)) da_nil))) (by decide)) da_nil))))
theorem ok_with_itself (hd : HdX TB K mg) : FnR P w K mg base CX0 1 ((Loc1.glo "with_itself").at_ K) (SpM (gK K) m_with_itself) := by
  obtain ⟨fd, F⟩ := hd.def_ 14
  exact fn_raw (g := gK K) (fk_with_itself hd F) (FunD.bindsN F fun _ _ _ _ _ _ us hl => match us, hl with | [_], _ => rfl)

theorem sc_reached_from : FnScope ["heard", "thread", "found", "waiting", "here", "other", "one"] ["heard", "thread"] (defScope (top 20)) := ⟨rfl, rfl, rfl, by decide +kernel, rfl, by decide +kernel, by decide +kernel⟩
theorem fk_reached_from (hd : HdX TB K mg) {fd : FuncData} (F : FunD K "reached_from" "reached_from" (defArgs (top 20)) (defBody (top 20)) (defScope (top 20)) [] [] ((Loc1.glo "reached_from").at_ K) fd) : FnOk P w K mg base CX0 1 ((Loc1.glo "reached_from").at_ K) fd ["heard", "thread"] (SpM (gK K) m_reached_from) := by
  exact fn_ok (g := gK K) F sc_reached_from fun cdv A outer s H E hr => (ds_cons (by first | exact ds_par (ps_par (i := 2) (j := 3) rfl sc_reached_from.nd rfl rfl (by decide) rfl rfl (da_cons (d_dict (l := [((eVar 1), (eC (.bl true)))]) (pps_cons (d_var (pv 1)) d_bl pps_nil)) (da_cons (d_lstO (da_cons (d_var (pv 1)) da_nil)) da_nil)) rfl) | exact ds_parC (da_cons (d_dict (l := [((eVar 1), (eC (.bl true)))]) (pps_cons (d_var (pv 1)) d_bl pps_nil)) (da_cons (d_lstO (da_cons (d_var (pv 1)) da_nil)) da_nil)) (pg_t (is := [2, 3]) rfl (pgs_cons (pg_name (i := 2) sc_reached_from.nd rfl (by first | exact .inl rfl | exact .inr rfl)) (pgs_cons (pg_name (i := 3) sc_reached_from.nd rfl (by first | exact .inl rfl | exact .inr rfl)) pgs_nil))))
    (ds_cons (ds_while 100 (ps_while PassesOwn.never (dt_tru (d_var (pv 3)))
    (ds_cons (ds_set (ps_set (i := 4) sc_reached_from.nd rfl (by first | exact .inl rfl | exact .inr rfl) (d_bm0 (ty_list rfl) (pe_bm0 PySem.F.plainAttrs_list PySem.F.slot_list_pop PySem.F.type_list_pop mm_pop (d_var (pv 3))))))
    (ds_one (ds_for (b := (.t [5, 6])) (ps_for PassesOwn.never rfl (di_enum (pi_enumA rfl (hd.free "enumerate") (da_cons (d_var (pv 0)) da_nil))) (pg_t (is := [5, 6]) rfl (pgs_cons (pg_name (i := 5) sc_reached_from.nd rfl (by first | exact .inl rfl | exact .inr rfl)) (pgs_cons (pg_name (i := 6) sc_reached_from.nd rfl (by first | exact .inl rfl | exact .inr rfl)) pgs_nil)))
    (ds_one (ds_if (PW.pt (dw_and (dt_cmp (oo_inL hr.u65) (d_var (pv 4)) (d_var (pv 6)) (by with_unfolding_all rfl)) (dw_and1 (dt_cmp (oo_ninDic hr.u1) (d_var (pv 5)) (d_var (pv 2)) (by with_unfolding_all rfl)))))
    (ds_cons (ds_put hr.u1 (d_var (pv 2)) (d_var (pv 5)) d_bl)
    (ds_one (ds_expr (d_bm (to := fun _ _ _ => True) (ty_list rfl) (pe_bm PySem.F.plainAttrs_list PySem.F.slot_list_append PySem.F.type_list_append mm_append (d_var (pv 3)) (da_cons (d_var (pv 5)) da_nil))))))
    ds_nil))))))))
    (ds_one (ds_ret (d_callB (fun _ hc ha => pe_callB hc rfl (hd.free "sorted") (by decide +kernel) ha) (cc_sortedA rfl) (da_cons (d_var (pv 2)) da_nil))))))
theorem ok_reached_from (hd : HdX TB K mg) : FnR P w K mg base CX0 1 ((Loc1.glo "reached_from").at_ K) (SpM (gK K) m_reached_from) := by
  obtain ⟨fd, F⟩ := hd.def_ 15
  exact fn_raw (g := gK K) (fk_reached_from hd F) (FunD.bindsN F fun _ _ _ _ _ _ us hl => match us, hl with | [_, _], _ => rfl)
theorem pu_reached_from (hd : HdX TB K mg) : FnR P w K mg base CX0 1 ((Loc1.glo "reached_from").at_ K) (SpM (gK K) (liftn F_reached)) := pure_of (g := gK K) (ok_reached_from hd) eq_reached_from

theorem sc_roots_of : FnScope ["heard", "thread"] ["heard"] (defScope (top 21)) := ⟨rfl, rfl, rfl, by decide +kernel, rfl, by decide +kernel, by decide +kernel⟩
theorem fk_roots_of (hd : HdX TB K mg) {fd : FuncData} (F : FunD K "roots_of" "roots_of" (defArgs (top 21)) (defBody (top 21)) (defScope (top 21)) [] [] ((Loc1.glo "roots_of").at_ K) fd) : FnOk P w K mg base CX0 2 ((Loc1.glo "roots_of").at_ K) fd ["heard"] (SpM (gK K) m_roots_of) := by
  exact fn_ok (g := gK K) F sc_roots_of fun cdv A outer s H E hr => (ds_one (ds_ret (d_callTy (fun _ hc ha => pe_callTy hc rfl (hd.free "tuple") (by decide +kernel) ha) cc_tuple (da_cons (d_lc mkL_ok (own := [("thread", 1)]) (b := (.n 1)) (t := (tCmp (look2 eqP) (eCallB lenO (aCons (eCall (liftn F_reached) (aCons (eVar 0) (aCons (eVar 1) aNil))) aNil)) (eCallB lenO (aCons (eVar 0) aNil)))) (e := (eVar 1)) rfl sc_roots_of.nd (di_rng1 (pi_range1 rfl (hd.free "range") (da_cons (d_callB (fun _ hc ha => pe_callB hc rfl (hd.free "len") (by decide +kernel) ha) cc_len (da_cons (d_var (pv 0)) da_nil)) da_nil))) (blk_ok (by kernel_rfl)) (fun _ _ _ _ _ => (pg_n (pg_name (i := 1) sc_roots_of.nd rfl (by first | exact .inl rfl | exact .inr rfl)))) (fun _ _ _ _ _ => (dts_one (dt_cmp (oo_eqL hr.units) (d_callB (fun _ hc ha => pe_callB hc rfl (hd.free "len") (by decide +kernel) ha) cc_len (da_cons (d_call (pu_reached_from hd) (hr.mono (by decide)) rfl (hd.glo "reached_from") (hd.keep "reached_from") (da_cons (d_var (pv 0)) (da_cons (d_var (pv 1)) da_nil))) da_nil)) (d_callB (fun _ hc ha => pe_callB hc rfl (hd.free "len") (by decide +kernel) ha) cc_len (da_cons (d_var (pv 0)) da_nil)) (nomark _)))) (fun _ _ _ _ _ => (d_var (pv 1))) (by decide)) da_nil))))
theorem ok_roots_of (hd : HdX TB K mg) : FnR P w K mg base CX0 2 ((Loc1.glo "roots_of").at_ K) (SpM (gK K) m_roots_of) := by
  obtain ⟨fd, F⟩ := hd.def_ 16
  exact fn_raw (g := gK K) (fk_roots_of hd F) (FunD.bindsN F fun _ _ _ _ _ _ us hl => match us, hl with | [_], _ => rfl)

theorem sc_Web___init__ : FnScope ["self", "heard", "marks", "other", "thread", "one"] ["self", "heard", "marks"] (defScope (mem (top 22) 1)) := ⟨rfl, rfl, rfl, by decide +kernel, rfl, by decide +kernel, by decide +kernel⟩
theorem fk_Web___init__ (hd : HdX TB K mg) {fd : FuncData} (F : FunD K "__init__" "Web.__init__" (defArgs (mem (top 22) 1)) (defBody (mem (top 22) 1)) (defScope (mem (top 22) 1)) [V.non] [] ((Loc1.meth "Web" "__init__").at_ K) fd) : FnOk P w K mg base CX0 7 ((Loc1.meth "Web" "__init__").at_ K) fd ["self", "heard", "marks"] (SpM (gK K) m_Web___init__) := by
  exact fn_ok (g := gK K) F sc_Web___init__ fun cdv A outer s H E hr => (ds_cons (ds_if (PW.pt (dw_or (dt_not (dt_tru (d_call (ok_are_heard hd) (hr.mono (by decide)) rfl (hd.glo "are_heard") (hd.keep "are_heard") (da_cons (d_var (pv 1)) da_nil)))) (dw_or1 (PW.pt (dw_and (dt_cmp oo_isnot (d_var (pv 2)) d_non (nomark _)) (dw_and1 (dt_not (dt_tru (d_call (ok_are_marks hd) (hr.mono (by decide)) rfl (hd.glo "are_marks") (hd.keep "are_marks") (da_cons (d_var (pv 2)) (da_cons (d_callB (fun _ hc ha => pe_callB hc rfl (hd.free "len") (by decide +kernel) ha) cc_len (da_cons (d_var (pv 1)) da_nil)) da_nil)))))))))))
    (ds_one ds_never)
    ds_nil)
    (ds_cons (ds_slot (hd.slot "own_heard") (d_var (pv 0)) (d_var (pv 1)))
    (ds_cons (ds_slot (hd.slot "own_size") (d_var (pv 0)) (d_callB (fun _ hc ha => pe_callB hc rfl (hd.free "len") (by decide +kernel) ha) cc_len (da_cons (d_var (pv 1)) da_nil)))
    (ds_cons (ds_slot (hd.slot "own_marks") (d_var (pv 0)) (d_if (dt_cmp oo_is (d_var (pv 2)) d_non (nomark _)) (d_op oo_mul (d_tup (da_cons d_int da_nil)) (d_callB (fun _ hc ha => pe_callB hc rfl (hd.free "len") (by decide +kernel) ha) cc_len (da_cons (d_var (pv 1)) da_nil))) (d_var (pv 2))))
    (ds_cons (ds_slot (hd.slot "own_signals") (d_var (pv 0)) (d_callTy (fun _ hc ha => pe_callTy hc rfl (hd.free "tuple") (by decide +kernel) ha) cc_tuple (da_cons (d_lzip (pe_lzip rfl rfl (hd.free "list") rfl (hd.free "zip") (da_cons (d_call (ok_with_itself hd) (hr.mono (by decide)) rfl (hd.glo "with_itself") (hd.keep "with_itself") (da_cons (d_var (pv 1)) da_nil)) (da_cons (d_slot (hd.slot "own_marks") (d_var (pv 0))) da_nil)))) da_nil)))
    (ds_cons (ds_slot (hd.slot "own_is_marked") (d_var (pv 0)) (d_cmp oo_gt (d_callB (fun _ hc ha => pe_callB hc rfl (hd.free "max") (by decide +kernel) ha) (cc_max rfl hr.u1) (da_cons (d_slot (hd.slot "own_marks") (d_var (pv 0))) da_nil)) d_int (nomark _)))
    (ds_cons (ds_slot (hd.slot "own_roots") (d_var (pv 0)) (d_call (ok_roots_of hd) (hr.mono (by decide)) rfl (hd.glo "roots_of") (hd.keep "roots_of") (da_cons (d_var (pv 1)) da_nil)))
    (ds_one (ds_slot (hd.slot "own_pairs") (d_var (pv 0)) (d_callTy (fun _ hc ha => pe_callTy hc rfl (hd.free "tuple") (by decide +kernel) ha) cc_tuple (da_cons (d_lc2 mkL_ok (own := [("thread", 4), ("one", 5), ("other", 3)]) (vs1 := [3]) (b := (.t [4, 5])) (b1 := (.n 3)) (t := tYesM) (t1 := tYesM) (e := (eDisp mkT (aCons (eVar 4) (aCons (eVar 3) aNil)))) (it1 := (aSeq (eVar 5))) rfl sc_Web___init__.nd (di_enum (pi_enumA rfl (hd.free "enumerate") (da_cons (d_var (pv 1)) da_nil))) (blk_ok (by kernel_rfl)) (by decide) (fun _ _ _ _ _ => (pg_t (is := [4, 5]) rfl (pgs_cons (pg_name (i := 4) sc_Web___init__.nd rfl (by first | exact .inl rfl | exact .inr rfl)) (pgs_cons (pg_name (i := 5) sc_Web___init__.nd rfl (by first | exact .inl rfl | exact .inr rfl)) pgs_nil)))) (fun _ _ _ _ _ => dts_nil) (fun _ _ _ _ _ => (di_seq (d_var (pv 5)))) (fun _ _ _ _ _ => (pg_n (pg_name (i := 3) sc_Web___init__.nd rfl (by first | exact .inl rfl | exact .inr rfl)))) (fun _ _ _ _ _ => dts_nil) (fun _ _ _ _ _ => (d_tup (da_cons (d_var (pv 4)) (da_cons (d_var (pv 3)) da_nil)))) (by decide) (by decide)) da_nil)))))))))))
theorem ok_Web___init__ (hd : HdX TB K mg) : FnR P w K mg base CX0 7 ((Loc1.meth "Web" "__init__").at_ K) (SpM (gK K) m_Web___init__) := by
  obtain ⟨fd, F⟩ := hd.def_ 17
  have F : FunD K "__init__" "Web.__init__" (defArgs (mem (top 22) 1)) (defBody (mem (top 22) 1)) (defScope (mem (top 22) 1)) [V.non] [] ((Loc1.meth "Web" "__init__").at_ K) fd := F
  obtain ⟨us, hv, hb⟩ := (FunD.binds1 (ps := ["self", "heard", "marks"]) F 3 1 (by simp) rfl fun T kV doc pm an cdv ct us its hu hi => match us, hu, its, hi with | [_, _, _], _, [_], _ => ⟨_, rfl, rfl⟩)
  cases hv
  exact fn_raw (g := gK K) (fk_Web___init__ hd F) hb
theorem ok_Web___init___d1 (hd : HdX TB K mg) : FnR P w K mg base CX0 7 ((Loc1.meth "Web" "__init__").at_ K) (SpM (gK K) fun es M => m_Web___init__ (es ++ [.p .non]) M) := by
  obtain ⟨fd, F⟩ := hd.def_ 17
  have F : FunD K "__init__" "Web.__init__" (defArgs (mem (top 22) 1)) (defBody (mem (top 22) 1)) (defScope (mem (top 22) 1)) [V.non] [] ((Loc1.meth "Web" "__init__").at_ K) fd := F
  exact fn_rawD (g := gK K) (ds := [.p .non]) (fk_Web___init__ hd F) (FunD.binds1 (ps := ["self", "heard", "marks"]) F 2 0 (by simp) rfl fun T kV doc pm an cdv ct us its hu hi => match us, hu, its, hi with | [_, _], _, [_], _ => ⟨_, rfl, rfl⟩) (fun w => by repeat (first | exact .nil | refine .cons rfl ?_))

theorem sc_Web_is_marked : FnScope ["self"] ["self"] (defScope (mem (top 22) 7)) := ⟨rfl, rfl, rfl, by decide +kernel, rfl, by decide +kernel, by decide +kernel⟩
theorem fk_Web_is_marked (hd : HdX TB K mg) {fd : FuncData} (F : FunD K "is_marked" "Web.is_marked" (defArgs (mem (top 22) 7)) (defBody (mem (top 22) 7)) (defScope (mem (top 22) 7)) [] [] ((Loc1.prop "Web" "is_marked").at_ K) fd) : FnOk P w K mg base CX0 1 ((Loc1.prop "Web" "is_marked").at_ K) fd ["self"] (SpM (gK K) m_Web_is_marked) := by
  exact fn_ok (g := gK K) F sc_Web_is_marked fun cdv A outer s H E hr => (ds_one (ds_ret (d_slot (hd.slot "own_is_marked") (d_var (pv 0)))))
theorem ok_Web_is_marked (hd : HdX TB K mg) : FnR P w K mg base CX0 1 ((Loc1.prop "Web" "is_marked").at_ K) (SpM (gK K) m_Web_is_marked) := by
  obtain ⟨fd, F⟩ := hd.def_ 18
  exact fn_raw (g := gK K) (fk_Web_is_marked hd F) (FunD.bindsN F fun _ _ _ _ _ _ us hl => match us, hl with | [_], _ => rfl)

theorem sc_Web_signals : FnScope ["self"] ["self"] (defScope (mem (top 22) 5)) := ⟨rfl, rfl, rfl, by decide +kernel, rfl, by decide +kernel, by decide +kernel⟩
theorem fk_Web_signals (hd : HdX TB K mg) {fd : FuncData} (F : FunD K "signals" "Web.signals" (defArgs (mem (top 22) 5)) (defBody (mem (top 22) 5)) (defScope (mem (top 22) 5)) [] [] ((Loc1.prop "Web" "signals").at_ K) fd) : FnOk P w K mg base CX0 1 ((Loc1.prop "Web" "signals").at_ K) fd ["self"] (SpM (gK K) m_Web_signals) := by
  exact fn_ok (g := gK K) F sc_Web_signals fun cdv A outer s H E hr => (ds_one (ds_ret (d_slot (hd.slot "own_signals") (d_var (pv 0)))))
theorem ok_Web_signals (hd : HdX TB K mg) : FnR P w K mg base CX0 1 ((Loc1.prop "Web" "signals").at_ K) (SpM (gK K) m_Web_signals) := by
  obtain ⟨fd, F⟩ := hd.def_ 19
  exact fn_raw (g := gK K) (fk_Web_signals hd F) (FunD.bindsN F fun _ _ _ _ _ _ us hl => match us, hl with | [_], _ => rfl)

theorem sc_Web_size : FnScope ["self"] ["self"] (defScope (mem (top 22) 4)) := ⟨rfl, rfl, rfl, by decide +kernel, rfl, by decide +kernel, by decide +kernel⟩
theorem fk_Web_size (hd : HdX TB K mg) {fd : FuncData} (F : FunD K "size" "Web.size" (defArgs (mem (top 22) 4)) (defBody (mem (top 22) 4)) (defScope (mem (top 22) 4)) [] [] ((Loc1.prop "Web" "size").at_ K) fd) : FnOk P w K mg base CX0 1 ((Loc1.prop "Web" "size").at_ K) fd ["self"] (SpM (gK K) m_Web_size) := by
  exact fn_ok (g := gK K) F sc_Web_size fun cdv A outer s H E hr => (ds_one (ds_ret (d_slot (hd.slot "own_size") (d_var (pv 0)))))
theorem ok_Web_size (hd : HdX TB K mg) : FnR P w K mg base CX0 1 ((Loc1.prop "Web" "size").at_ K) (SpM (gK K) m_Web_size) := by
  obtain ⟨fd, F⟩ := hd.def_ 20
  exact fn_raw (g := gK K) (fk_Web_size hd F) (FunD.bindsN F fun _ _ _ _ _ _ us hl => match us, hl with | [_], _ => rfl)

theorem sc_Web_marks : FnScope ["self"] ["self"] (defScope (mem (top 22) 3)) := ⟨rfl, rfl, rfl, by decide +kernel, rfl, by decide +kernel, by decide +kernel⟩
theorem fk_Web_marks (hd : HdX TB K mg) {fd : FuncData} (F : FunD K "marks" "Web.marks" (defArgs (mem (top 22) 3)) (defBody (mem (top 22) 3)) (defScope (mem (top 22) 3)) [] [] ((Loc1.prop "Web" "marks").at_ K) fd) : FnOk P w K mg base CX0 1 ((Loc1.prop "Web" "marks").at_ K) fd ["self"] (SpM (gK K) m_Web_marks) := by
  exact fn_ok (g := gK K) F sc_Web_marks fun cdv A outer s H E hr => (ds_one (ds_ret (d_slot (hd.slot "own_marks") (d_var (pv 0)))))
theorem ok_Web_marks (hd : HdX TB K mg) : FnR P w K mg base CX0 1 ((Loc1.prop "Web" "marks").at_ K) (SpM (gK K) m_Web_marks) := by
  obtain ⟨fd, F⟩ := hd.def_ 21
  exact fn_raw (g := gK K) (fk_Web_marks hd F) (FunD.bindsN F fun _ _ _ _ _ _ us hl => match us, hl with | [_], _ => rfl)

theorem sc_Web_heard : FnScope ["self"] ["self"] (defScope (mem (top 22) 2)) := ⟨rfl, rfl, rfl, by decide +kernel, rfl, by decide +kernel, by decide +kernel⟩
theorem fk_Web_heard (hd : HdX TB K mg) {fd : FuncData} (F : FunD K "heard" "Web.heard" (defArgs (mem (top 22) 2)) (defBody (mem (top 22) 2)) (defScope (mem (top 22) 2)) [] [] ((Loc1.prop "Web" "heard").at_ K) fd) : FnOk P w K mg base CX0 1 ((Loc1.prop "Web" "heard").at_ K) fd ["self"] (SpM (gK K) m_Web_heard) := by
  exact fn_ok (g := gK K) F sc_Web_heard fun cdv A outer s H E hr => (ds_one (ds_ret (d_slot (hd.slot "own_heard") (d_var (pv 0)))))
theorem ok_Web_heard (hd : HdX TB K mg) : FnR P w K mg base CX0 1 ((Loc1.prop "Web" "heard").at_ K) (SpM (gK K) m_Web_heard) := by
  obtain ⟨fd, F⟩ := hd.def_ 22
  exact fn_raw (g := gK K) (fk_Web_heard hd F) (FunD.bindsN F fun _ _ _ _ _ _ us hl => match us, hl with | [_], _ => rfl)

theorem sc_Web_roots : FnScope ["self"] ["self"] (defScope (mem (top 22) 6)) := ⟨rfl, rfl, rfl, by decide +kernel, rfl, by decide +kernel, by decide +kernel⟩
theorem fk_Web_roots (hd : HdX TB K mg) {fd : FuncData} (F : FunD K "roots" "Web.roots" (defArgs (mem (top 22) 6)) (defBody (mem (top 22) 6)) (defScope (mem (top 22) 6)) [] [] ((Loc1.prop "Web" "roots").at_ K) fd) : FnOk P w K mg base CX0 1 ((Loc1.prop "Web" "roots").at_ K) fd ["self"] (SpM (gK K) m_Web_roots) := by
  exact fn_ok (g := gK K) F sc_Web_roots fun cdv A outer s H E hr => (ds_one (ds_ret (d_slot (hd.slot "own_roots") (d_var (pv 0)))))
theorem ok_Web_roots (hd : HdX TB K mg) : FnR P w K mg base CX0 1 ((Loc1.prop "Web" "roots").at_ K) (SpM (gK K) m_Web_roots) := by
  obtain ⟨fd, F⟩ := hd.def_ 23
  exact fn_raw (g := gK K) (fk_Web_roots hd F) (FunD.bindsN F fun _ _ _ _ _ _ us hl => match us, hl with | [_], _ => rfl)

theorem sc__law_led : FnScope ["_law_heard_here", "_law_thread", "_law_found", "_law_turn", "_law_other", "_law_one"] ["_law_heard_here", "_law_thread"] (defScope (top 32)) := ⟨rfl, rfl, rfl, by decide +kernel, rfl, by decide +kernel, by decide +kernel⟩
theorem fk__law_led (hd : HdX TB K mg) {fd : FuncData} (F : FunD K "_law_led" "_law_led" (defArgs (top 32)) (defBody (top 32)) (defScope (top 32)) [] [] ((Loc1.glo "_law_led").at_ K) fd) : FnOk P w K mg base CX0 1 ((Loc1.glo "_law_led").at_ K) fd ["_law_heard_here", "_law_thread"] (SpM (gK K) m__law_led) := by
  exact fn_ok (g := gK K) F sc__law_led fun cdv A outer s H E hr => (ds_cons (ds_set (ps_set (i := 2) sc__law_led.nd rfl (by first | exact .inl rfl | exact .inr rfl) (d_lstO (da_cons (d_var (pv 1)) da_nil))))
    (ds_cons (ds_for (b := (.n 3)) (ps_for PassesOwn.never rfl (di_rng1 (pi_range1 rfl (hd.free "range") (da_cons (d_callB (fun _ hc ha => pe_callB hc rfl (hd.free "len") (by decide +kernel) ha) cc_len (da_cons (d_var (pv 0)) da_nil)) da_nil))) (pg_n (pg_name (i := 3) sc__law_led.nd rfl (by first | exact .inl rfl | exact .inr rfl)))
    (ds_one (ds_for (b := (.n 4)) (ps_for PassesOwn.never rfl (di_rng1 (pi_range1 rfl (hd.free "range") (da_cons (d_callB (fun _ hc ha => pe_callB hc rfl (hd.free "len") (by decide +kernel) ha) cc_len (da_cons (d_var (pv 0)) da_nil)) da_nil))) (pg_n (pg_name (i := 4) sc__law_led.nd rfl (by first | exact .inl rfl | exact .inr rfl)))
    (ds_one (ds_if (PW.pt (dw_and (dt_cmp (oo_ninL hr.u65) (d_var (pv 4)) (d_var (pv 2)) (by with_unfolding_all rfl)) (dw_and1 (dt_cmp (oo_neL hr.units) (d_lc mkL_ok (own := [("_law_one", 5)]) (b := (.n 5)) (t := (tCmp (look2 inP) (eVar 5) (eVar 2))) (e := (eVar 5)) rfl sc__law_led.nd (di_seq (d_ix (d_var (pv 0)) (d_var (pv 4)) (fun _ _ => rfl))) (blk_ok (by kernel_rfl)) (fun _ _ _ _ _ => (pg_n (pg_name (i := 5) sc__law_led.nd rfl (by first | exact .inl rfl | exact .inr rfl)))) (fun _ _ _ _ _ => (dts_one (dt_cmp (oo_inL hr.u65) (d_var (pv 5)) (d_var (pv 2)) (by with_unfolding_all rfl)))) (fun _ _ _ _ _ => (d_var (pv 5))) (by decide)) (d_lst da_nil) (nomark _)))))
    (ds_one (ds_expr (d_bm (to := fun _ _ _ => True) (ty_list rfl) (pe_bm PySem.F.plainAttrs_list PySem.F.slot_list_append PySem.F.type_list_append mm_append (d_var (pv 2)) (da_cons (d_var (pv 4)) da_nil)))))
    ds_nil)))))))
    (ds_one (ds_ret (d_callB (fun _ hc ha => pe_callB hc rfl (hd.free "sorted") (by decide +kernel) ha) (cc_sortedA rfl) (da_cons (d_var (pv 2)) da_nil))))))
theorem ok__law_led (hd : HdX TB K mg) : FnR P w K mg base CX0 1 ((Loc1.glo "_law_led").at_ K) (SpM (gK K) m__law_led) := by
  obtain ⟨fd, F⟩ := hd.def_ 24
  exact fn_raw (g := gK K) (fk__law_led hd F) (FunD.bindsN F fun _ _ _ _ _ _ us hl => match us, hl with | [_, _], _ => rfl)
theorem pu__law_led (hd : HdX TB K mg) : FnR P w K mg base CX0 1 ((Loc1.glo "_law_led").at_ K) (SpM (gK K) (liftn F_reached)) := pure_of (g := gK K) (ok__law_led hd) eq_led

theorem sc__law_root_list : FnScope ["_law_heard_here", "_law_thread"] ["_law_heard_here"] (defScope (top 33)) := ⟨rfl, rfl, rfl, by decide +kernel, rfl, by decide +kernel, by decide +kernel⟩
theorem fk__law_root_list (hd : HdX TB K mg) {fd : FuncData} (F : FunD K "_law_root_list" "_law_root_list" (defArgs (top 33)) (defBody (top 33)) (defScope (top 33)) [] [] ((Loc1.glo "_law_root_list").at_ K) fd) : FnOk P w K mg base CX0 2 ((Loc1.glo "_law_root_list").at_ K) fd ["_law_heard_here"] (SpM (gK K) m__law_root_list) := by
  exact fn_ok (g := gK K) F sc__law_root_list fun cdv A outer s H E hr => (ds_one (ds_ret (d_lc mkL_ok (own := [("_law_thread", 1)]) (b := (.n 1)) (t := (tCmp (look2 eqP) (eCallB lenO (aCons (eCall (liftn F_reached) (aCons (eVar 0) (aCons (eVar 1) aNil))) aNil)) (eCallB lenO (aCons (eVar 0) aNil)))) (e := (eVar 1)) rfl sc__law_root_list.nd (di_rng1 (pi_range1 rfl (hd.free "range") (da_cons (d_callB (fun _ hc ha => pe_callB hc rfl (hd.free "len") (by decide +kernel) ha) cc_len (da_cons (d_var (pv 0)) da_nil)) da_nil))) (blk_ok (by kernel_rfl)) (fun _ _ _ _ _ => (pg_n (pg_name (i := 1) sc__law_root_list.nd rfl (by first | exact .inl rfl | exact .inr rfl)))) (fun _ _ _ _ _ => (dts_one (dt_cmp (oo_eqL hr.units) (d_callB (fun _ hc ha => pe_callB hc rfl (hd.free "len") (by decide +kernel) ha) cc_len (da_cons (d_call (pu__law_led hd) (hr.mono (by decide)) rfl (hd.glo "_law_led") (hd.keep "_law_led") (da_cons (d_var (pv 0)) (da_cons (d_var (pv 1)) da_nil))) da_nil)) (d_callB (fun _ hc ha => pe_callB hc rfl (hd.free "len") (by decide +kernel) ha) cc_len (da_cons (d_var (pv 0)) da_nil)) (nomark _)))) (fun _ _ _ _ _ => (d_var (pv 1))) (by decide))))
theorem ok__law_root_list (hd : HdX TB K mg) : FnR P w K mg base CX0 2 ((Loc1.glo "_law_root_list").at_ K) (SpM (gK K) m__law_root_list) := by
  obtain ⟨fd, F⟩ := hd.def_ 25
  exact fn_raw (g := gK K) (fk__law_root_list hd F) (FunD.bindsN F fun _ _ _ _ _ _ us hl => match us, hl with | [_], _ => rfl)

theorem sc_Web___len__ : FnScope ["self"] ["self"] (defScope (mem (top 22) 24)) := ⟨rfl, rfl, rfl, by decide +kernel, rfl, by decide +kernel, by decide +kernel⟩
theorem fk_Web___len__ (hd : HdX TB K mg) {fd : FuncData} (F : FunD K "__len__" "Web.__len__" (defArgs (mem (top 22) 24)) (defBody (mem (top 22) 24)) (defScope (mem (top 22) 24)) [] [] ((Loc1.meth "Web" "__len__").at_ K) fd) : FnOk P w K mg base CX0 1 ((Loc1.meth "Web" "__len__").at_ K) fd ["self"] (SpM (gK K) m_Web___len__) := by
  exact fn_ok (g := gK K) F sc_Web___len__ fun cdv A outer s H E hr => (ds_one (ds_ret (d_callB (fun _ hc ha => pe_callB hc rfl (hd.free "len") (by decide +kernel) ha) cc_len (da_cons (d_slot (hd.slot "own_pairs") (d_var (pv 0))) da_nil))))
theorem ok_Web___len__ (hd : HdX TB K mg) : FnR P w K mg base CX0 1 ((Loc1.meth "Web" "__len__").at_ K) (SpM (gK K) m_Web___len__) := by
  obtain ⟨fd, F⟩ := hd.def_ 26
  exact fn_raw (g := gK K) (fk_Web___len__ hd F) (FunD.bindsN F fun _ _ _ _ _ _ us hl => match us, hl with | [_], _ => rfl)

theorem sc_require_index : FnScope ["value", "many"] ["value", "many"] (defScope (top 15)) := ⟨rfl, rfl, rfl, by decide +kernel, rfl, by decide +kernel, by decide +kernel⟩
theorem fk_require_index (hd : HdX TB K mg) {fd : FuncData} (F : FunD K "require_index" "require_index" (defArgs (top 15)) (defBody (top 15)) (defScope (top 15)) [] [] ((Loc1.glo "require_index").at_ K) fd) : FnOk P w K mg base CX0 4 ((Loc1.glo "require_index").at_ K) fd ["value", "many"] (SpM (gK K) m_require_index) := by
  exact fn_ok (g := gK K) F sc_require_index fun cdv A outer s H E hr => (ds_one (ds_if (dt_not (dt_tru (d_call (ok_is_index hd) (hr.mono (by decide)) rfl (hd.glo "is_index") (hd.keep "is_index") (da_cons (d_var (pv 0)) (da_cons (d_var (pv 1)) da_nil)))))
    (ds_one ds_never)
    ds_nil))
theorem ok_require_index (hd : HdX TB K mg) : FnR P w K mg base CX0 4 ((Loc1.glo "require_index").at_ K) (SpM (gK K) m_require_index) := by
  obtain ⟨fd, F⟩ := hd.def_ 27
  exact fn_raw (g := gK K) (fk_require_index hd F) (FunD.bindsN F fun _ _ _ _ _ _ us hl => match us, hl with | [_, _], _ => rfl)

theorem sc_Web_signal : FnScope ["self", "thread"] ["self", "thread"] (defScope (mem (top 22) 8)) := ⟨rfl, rfl, rfl, by decide +kernel, rfl, by decide +kernel, by decide +kernel⟩
theorem fk_Web_signal (hd : HdX TB K mg) {fd : FuncData} (F : FunD K "signal" "Web.signal" (defArgs (mem (top 22) 8)) (defBody (mem (top 22) 8)) (defScope (mem (top 22) 8)) [] [] ((Loc1.meth "Web" "signal").at_ K) fd) : FnOk P w K mg base CX0 5 ((Loc1.meth "Web" "signal").at_ K) fd ["self", "thread"] (SpM (gK K) m_Web_signal) := by
  exact fn_ok (g := gK K) F sc_Web_signal fun cdv A outer s H E hr => (ds_cons (ds_expr (d_call (ok_require_index hd) (hr.mono (by decide)) rfl (hd.glo "require_index") (hd.keep "require_index") (da_cons (d_var (pv 1)) (da_cons (d_slot (hd.slot "own_size") (d_var (pv 0))) da_nil))))
    (ds_one (ds_ret (d_ix (d_slot (hd.slot "own_signals") (d_var (pv 0))) (d_var (pv 1)) (fun _ _ => rfl)))))
theorem ok_Web_signal (hd : HdX TB K mg) : FnR P w K mg base CX0 5 ((Loc1.meth "Web" "signal").at_ K) (SpM (gK K) m_Web_signal) := by
  obtain ⟨fd, F⟩ := hd.def_ 28
  exact fn_raw (g := gK K) (fk_Web_signal hd F) (FunD.bindsN F fun _ _ _ _ _ _ us hl => match us, hl with | [_, _], _ => rfl)

theorem sc_Web_hears : FnScope ["self", "thread"] ["self", "thread"] (defScope (mem (top 22) 9)) := ⟨rfl, rfl, rfl, by decide +kernel, rfl, by decide +kernel, by decide +kernel⟩
theorem fk_Web_hears (hd : HdX TB K mg) {fd : FuncData} (F : FunD K "hears" "Web.hears" (defArgs (mem (top 22) 9)) (defBody (mem (top 22) 9)) (defScope (mem (top 22) 9)) [] [] ((Loc1.meth "Web" "hears").at_ K) fd) : FnOk P w K mg base CX0 5 ((Loc1.meth "Web" "hears").at_ K) fd ["self", "thread"] (SpM (gK K) m_Web_hears) := by
  exact fn_ok (g := gK K) F sc_Web_hears fun cdv A outer s H E hr => (ds_cons (ds_expr (d_call (ok_require_index hd) (hr.mono (by decide)) rfl (hd.glo "require_index") (hd.keep "require_index") (da_cons (d_var (pv 1)) (da_cons (d_slot (hd.slot "own_size") (d_var (pv 0))) da_nil))))
    (ds_one (ds_ret (d_ix (d_ix (d_slot (hd.slot "own_signals") (d_var (pv 0))) (d_var (pv 1)) (fun _ _ => rfl)) d_int (fun _ _ => rfl)))))
theorem ok_Web_hears (hd : HdX TB K mg) : FnR P w K mg base CX0 5 ((Loc1.meth "Web" "hears").at_ K) (SpM (gK K) m_Web_hears) := by
  obtain ⟨fd, F⟩ := hd.def_ 29
  exact fn_raw (g := gK K) (fk_Web_hears hd F) (FunD.bindsN F fun _ _ _ _ _ _ us hl => match us, hl with | [_, _], _ => rfl)

theorem sc_Web_reached : FnScope ["self", "thread"] ["self", "thread"] (defScope (mem (top 22) 10)) := ⟨rfl, rfl, rfl, by decide +kernel, rfl, by decide +kernel, by decide +kernel⟩
theorem fk_Web_reached (hd : HdX TB K mg) {fd : FuncData} (F : FunD K "reached" "Web.reached" (defArgs (mem (top 22) 10)) (defBody (mem (top 22) 10)) (defScope (mem (top 22) 10)) [] [] ((Loc1.meth "Web" "reached").at_ K) fd) : FnOk P w K mg base CX0 5 ((Loc1.meth "Web" "reached").at_ K) fd ["self", "thread"] (SpM (gK K) m_Web_reached) := by
  exact fn_ok (g := gK K) F sc_Web_reached fun cdv A outer s H E hr => (ds_cons (ds_expr (d_call (ok_require_index hd) (hr.mono (by decide)) rfl (hd.glo "require_index") (hd.keep "require_index") (da_cons (d_var (pv 1)) (da_cons (d_slot (hd.slot "own_size") (d_var (pv 0))) da_nil))))
    (ds_one (ds_ret (d_callTy (fun _ hc ha => pe_callTy hc rfl (hd.free "tuple") (by decide +kernel) ha) cc_tuple (da_cons (d_call (pu_reached_from hd) (hr.mono (by decide)) rfl (hd.glo "reached_from") (hd.keep "reached_from") (da_cons (d_slot (hd.slot "own_heard") (d_var (pv 0))) (da_cons (d_var (pv 1)) da_nil))) da_nil)))))
theorem ok_Web_reached (hd : HdX TB K mg) : FnR P w K mg base CX0 5 ((Loc1.meth "Web" "reached").at_ K) (SpM (gK K) m_Web_reached) := by
  obtain ⟨fd, F⟩ := hd.def_ 30
  exact fn_raw (g := gK K) (fk_Web_reached hd F) (FunD.bindsN F fun _ _ _ _ _ _ us hl => match us, hl with | [_, _], _ => rfl)

theorem sc_is_plain_pair : FnScope ["value", "one"] ["value"] (defScope (top 23)) := ⟨rfl, rfl, rfl, by decide +kernel, rfl, by decide +kernel, by decide +kernel⟩
theorem fk_is_plain_pair (hd : HdX TB K mg) {fd : FuncData} (F : FunD K "is_plain_pair" "is_plain_pair" (defArgs (top 23)) (defBody (top 23)) (defScope (top 23)) [] [] ((Loc1.glo "is_plain_pair").at_ K) fd) : FnOk P w K mg base CX0 1 ((Loc1.glo "is_plain_pair").at_ K) fd ["value"] (SpM (gK K) m_is_plain_pair) := by
  exact fn_ok (g := gK K) F sc_is_plain_pair fun cdv A outer s H E hr => (ds_one (ds_ret (d_callB (fun _ hc ha => pe_callB hc rfl (hd.free "all") (by decide +kernel) ha) (cc_all rfl) (da_cons (d_lc mkL_ok (own := [("one", 1)]) (b := (.n 1)) (t := tYesM) (e := (eUn notD (eCallB (isiO isiT) (aCons (eVar 1) (aCons (eC (.ty "bool")) aNil))))) rfl sc_is_plain_pair.nd (di_seq (d_var (pv 0))) (blk_ok (by kernel_rfl)) (fun _ _ _ _ _ => (pg_n (pg_name (i := 1) sc_is_plain_pair.nd rfl (by first | exact .inl rfl | exact .inr rfl)))) (fun _ _ _ _ _ => dts_nil) (fun _ _ _ _ _ => (d_not (d_callB (fun _ hc ha => pe_callB hc rfl (hd.free "isinstance") (by decide +kernel) ha) (cc_isi hd.isi) (da_cons (d_var (pv 1)) (da_cons (d_ty rfl (hd.free "bool") (by decide +kernel)) da_nil))))) (by decide)) da_nil))))
theorem ok_is_plain_pair (hd : HdX TB K mg) : FnR P w K mg base CX0 1 ((Loc1.glo "is_plain_pair").at_ K) (SpM (gK K) m_is_plain_pair) := by
  obtain ⟨fd, F⟩ := hd.def_ 31
  exact fn_raw (g := gK K) (fk_is_plain_pair hd F) (FunD.bindsN F fun _ _ _ _ _ _ us hl => match us, hl with | [_], _ => rfl)

theorem sc_Web___contains__ : FnScope ["self", "value"] ["self", "value"] (defScope (mem (top 22) 23)) := ⟨rfl, rfl, rfl, by decide +kernel, rfl, by decide +kernel, by decide +kernel⟩
theorem fk_Web___contains__ (hd : HdX TB K mg) {fd : FuncData} (F : FunD K "__contains__" "Web.__contains__" (defArgs (mem (top 22) 23)) (defBody (mem (top 22) 23)) (defScope (mem (top 22) 23)) [] [] ((Loc1.meth "Web" "__contains__").at_ K) fd) : FnOk P w K mg base CX0 2 ((Loc1.meth "Web" "__contains__").at_ K) fd ["self", "value"] (SpM (gK K) m_Web___contains__) := by
  exact fn_ok (g := gK K) F sc_Web___contains__ fun cdv A outer s H E hr => (ds_one (ds_ret (d_and (d_callB (fun _ hc ha => pe_callB hc rfl (hd.free "isinstance") (by decide +kernel) ha) (cc_isi hd.isi) (da_cons (d_var (pv 1)) (da_cons (d_ty rfl (hd.free "tuple") (by decide +kernel)) da_nil))) (d_and (d_cmp (oo_eqL hr.units) (d_callB (fun _ hc ha => pe_callB hc rfl (hd.free "len") (by decide +kernel) ha) cc_len (da_cons (d_var (pv 1)) da_nil)) d_int (nomark _)) (d_and (d_cmp (oo_inL hr.u65) (d_var (pv 1)) (d_slot (hd.slot "own_pairs") (d_var (pv 0))) (by with_unfolding_all rfl)) (d_one (d_call (ok_is_plain_pair hd) (hr.mono (by decide)) rfl (hd.glo "is_plain_pair") (hd.keep "is_plain_pair") (da_cons (d_var (pv 1)) da_nil))))))))
theorem ok_Web___contains__ (hd : HdX TB K mg) : FnR P w K mg base CX0 2 ((Loc1.meth "Web" "__contains__").at_ K) (SpM (gK K) m_Web___contains__) := by
  obtain ⟨fd, F⟩ := hd.def_ 32
  exact fn_raw (g := gK K) (fk_Web___contains__ hd F) (FunD.bindsN F fun _ _ _ _ _ _ us hl => match us, hl with | [_, _], _ => rfl)

theorem sc_Web___str__ : FnScope ["self", "told", "marks", "thread", "other", "mark"] ["self"] (defScope (mem (top 22) 26)) := ⟨rfl, rfl, rfl, by decide +kernel, rfl, by decide +kernel, by decide +kernel⟩
theorem fk_Web___str__ (hd : HdX TB K mg) {fd : FuncData} (F : FunD K "__str__" "Web.__str__" (defArgs (mem (top 22) 26)) (defBody (mem (top 22) 26)) (defScope (mem (top 22) 26)) [] [] ((Loc1.meth "Web" "__str__").at_ K) fd) : FnOk P w K mg base CX0 1 ((Loc1.meth "Web" "__str__").at_ K) fd ["self"] (SpM (gK K) m_Web___str__) := by
  exact fn_ok (g := gK K) F sc_Web___str__ fun cdv A outer s H E hr => (ds_cons (ds_set (ps_set (i := 1) sc_Web___str__.nd rfl (by first | exact .inl rfl | exact .inr rfl) (d_bm (to := fun _ _ _ => True) (ty_str) (pe_bm PySem.F.plainAttrs_str PySem.F.slot_str_join PySem.F.type_str_join mm_join d_str (da_cons (d_lc mkL_ok (own := [("thread", 3), ("other", 4)]) (b := (.t [3, 4])) (t := tYesM) (e := (eJoined [(eUn (lift1 fmtP) (eVar 3)), (eC (.str " hears ")), (eUn (lift1 fmtP) (eVar 4))])) rfl sc_Web___str__.nd (di_seq (d_slot (hd.slot "own_pairs") (d_var (pv 0)))) (blk_ok (by kernel_rfl)) (fun _ _ _ _ _ => (pg_t (is := [3, 4]) rfl (pgs_cons (pg_name (i := 3) sc_Web___str__.nd rfl (by first | exact .inl rfl | exact .inr rfl)) (pgs_cons (pg_name (i := 4) sc_Web___str__.nd rfl (by first | exact .inl rfl | exact .inr rfl)) pgs_nil)))) (fun _ _ _ _ _ => dts_nil) (fun _ _ _ _ _ => (d_joined (l := [(eUn (lift1 fmtP) (eVar 3)), (eC (.str " hears ")), (eUn (lift1 fmtP) (eVar 4))]) (.cons (d_fmt (d_var (pv 3))) (.cons d_str (.cons (d_fmt (d_var (pv 4))) .nil))))) (by decide)) da_nil)))))
    (ds_cons (ds_set (ps_set (i := 2) sc_Web___str__.nd rfl (by first | exact .inl rfl | exact .inr rfl) (d_if (dt_tru (d_slot (hd.slot "own_is_marked") (d_var (pv 0)))) (d_joined (l := [(eC (.str "; marks ")), (eUn (lift1 fmtP) (eBm isS joinD (eC (.str " ")) (aCons (eLc mkL (aSeq (eUn (slotD (slT "own_marks")) (eVar 0))) (.n 5) tYesM (eCallB (liftn (one strF)) (aCons (eVar 5) aNil)) [5]) aNil)))]) (.cons d_str (.cons (d_fmt (d_bm (to := fun _ _ _ => True) (ty_str) (pe_bm PySem.F.plainAttrs_str PySem.F.slot_str_join PySem.F.type_str_join mm_join d_str (da_cons (d_lc mkL_ok (own := [("mark", 5)]) (b := (.n 5)) (t := tYesM) (e := (eCallB (liftn (one strF)) (aCons (eVar 5) aNil))) rfl sc_Web___str__.nd (di_seq (d_slot (hd.slot "own_marks") (d_var (pv 0)))) (blk_ok (by kernel_rfl)) (fun _ _ _ _ _ => (pg_n (pg_name (i := 5) sc_Web___str__.nd rfl (by first | exact .inl rfl | exact .inr rfl)))) (fun _ _ _ _ _ => dts_nil) (fun _ _ _ _ _ => (d_callTy (fun _ hc ha => pe_callTy hc rfl (hd.free "str") (by decide +kernel) ha) cc_str (da_cons (d_var (pv 5)) da_nil))) (by decide)) da_nil)))) .nil))) d_str)))
    (ds_one (ds_ret (d_joined (l := [(eC (.str "web of ")), (eUn (lift1 fmtP) (eUn (slotD (slT "own_size")) (eVar 0))), (eC (.str " threads: ")), (eUn (lift1 fmtP) (eIf (tCmp (look2 neP) (eVar 1) (eC (.str ""))) (eVar 1) (eC (.str "nobody hears")))), (eUn (lift1 fmtP) (eVar 2))]) (.cons d_str (.cons (d_fmt (d_slot (hd.slot "own_size") (d_var (pv 0)))) (.cons d_str (.cons (d_fmt (d_if (dt_cmp (oo_neL hr.units) (d_var (pv 1)) d_str (nomark _)) (d_var (pv 1)) d_str)) (.cons (d_fmt (d_var (pv 2))) .nil))))))))))
theorem ok_Web___str__ (hd : HdX TB K mg) : FnR P w K mg base CX0 1 ((Loc1.meth "Web" "__str__").at_ K) (SpM (gK K) m_Web___str__) := by
  obtain ⟨fd, F⟩ := hd.def_ 33
  exact fn_raw (g := gK K) (fk_Web___str__ hd F) (FunD.bindsN F fun _ _ _ _ _ _ us hl => match us, hl with | [_], _ => rfl)

theorem sc__law_text : FnScope ["_law_heard_here", "_law_marks_here", "_law_pairs", "_law_told", "_law_end", "_law_thread", "_law_row", "_law_other", "_law_mark"] ["_law_heard_here", "_law_marks_here"] (defScope (top 34)) := ⟨rfl, rfl, rfl, by decide +kernel, rfl, by decide +kernel, by decide +kernel⟩
theorem fk__law_text (hd : HdX TB K mg) {fd : FuncData} (F : FunD K "_law_text" "_law_text" (defArgs (top 34)) (defBody (top 34)) (defScope (top 34)) [] [] ((Loc1.glo "_law_text").at_ K) fd) : FnOk P w K mg base CX0 1 ((Loc1.glo "_law_text").at_ K) fd ["_law_heard_here", "_law_marks_here"] (SpM (gK K) m__law_text) := by
  exact fn_ok (g := gK K) F sc__law_text fun cdv A outer s H E hr => (ds_cons (ds_set (ps_set (i := 2) sc__law_text.nd rfl (by first | exact .inl rfl | exact .inr rfl) (d_lst da_nil)))
    (ds_cons (ds_for (b := (.t [5, 6])) (ps_for PassesOwn.never rfl (di_enum (pi_enumA rfl (hd.free "enumerate") (da_cons (d_var (pv 0)) da_nil))) (pg_t (is := [5, 6]) rfl (pgs_cons (pg_name (i := 5) sc__law_text.nd rfl (by first | exact .inl rfl | exact .inr rfl)) (pgs_cons (pg_name (i := 6) sc__law_text.nd rfl (by first | exact .inl rfl | exact .inr rfl)) pgs_nil)))
    (ds_one (ds_set (ps_set (i := 2) sc__law_text.nd rfl (by first | exact .inl rfl | exact .inr rfl) (d_op oo_add (d_var (pv 2)) (d_lc mkL_ok (own := [("_law_other", 7)]) (b := (.n 7)) (t := tYesM) (e := (eOp (lift2 addP) (eOp (lift2 addP) (eCallB (liftn (one strF)) (aCons (eVar 5) aNil)) (eC (.str " hears "))) (eCallB (liftn (one strF)) (aCons (eVar 7) aNil)))) rfl sc__law_text.nd (di_seq (d_var (pv 6))) (blk_ok (by kernel_rfl)) (fun _ _ _ _ _ => (pg_n (pg_name (i := 7) sc__law_text.nd rfl (by first | exact .inl rfl | exact .inr rfl)))) (fun _ _ _ _ _ => dts_nil) (fun _ _ _ _ _ => (d_op oo_add (d_op oo_add (d_callTy (fun _ hc ha => pe_callTy hc rfl (hd.free "str") (by decide +kernel) ha) cc_str (da_cons (d_var (pv 5)) da_nil)) d_str) (d_callTy (fun _ hc ha => pe_callTy hc rfl (hd.free "str") (by decide +kernel) ha) cc_str (da_cons (d_var (pv 7)) da_nil)))) (by decide))))))))
    (ds_cons (ds_set (ps_set (i := 3) sc__law_text.nd rfl (by first | exact .inl rfl | exact .inr rfl) (d_if (dt_cmp (oo_neL hr.units) (d_var (pv 2)) (d_lst da_nil) (nomark _)) (d_bm (to := fun _ _ _ => True) (ty_str) (pe_bm PySem.F.plainAttrs_str PySem.F.slot_str_join PySem.F.type_str_join mm_join d_str (da_cons (d_var (pv 2)) da_nil))) d_str)))
    (ds_cons (ds_set (ps_set (i := 4) sc__law_text.nd rfl (by first | exact .inl rfl | exact .inr rfl) (d_if (dt_cmp oo_gt (d_callB (fun _ hc ha => pe_callB hc rfl (hd.free "max") (by decide +kernel) ha) (cc_max rfl hr.u1) (da_cons (d_var (pv 1)) da_nil)) d_int (nomark _)) (d_op oo_add d_str (d_bm (to := fun _ _ _ => True) (ty_str) (pe_bm PySem.F.plainAttrs_str PySem.F.slot_str_join PySem.F.type_str_join mm_join d_str (da_cons (d_lc mkL_ok (own := [("_law_mark", 8)]) (b := (.n 8)) (t := tYesM) (e := (eCallB (liftn (one strF)) (aCons (eVar 8) aNil))) rfl sc__law_text.nd (di_seq (d_var (pv 1))) (blk_ok (by kernel_rfl)) (fun _ _ _ _ _ => (pg_n (pg_name (i := 8) sc__law_text.nd rfl (by first | exact .inl rfl | exact .inr rfl)))) (fun _ _ _ _ _ => dts_nil) (fun _ _ _ _ _ => (d_callTy (fun _ hc ha => pe_callTy hc rfl (hd.free "str") (by decide +kernel) ha) cc_str (da_cons (d_var (pv 8)) da_nil))) (by decide)) da_nil)))) d_str)))
    (ds_one (ds_ret (d_op oo_add (d_op oo_add (d_op oo_add (d_op oo_add d_str (d_callTy (fun _ hc ha => pe_callTy hc rfl (hd.free "str") (by decide +kernel) ha) cc_str (da_cons (d_callB (fun _ hc ha => pe_callB hc rfl (hd.free "len") (by decide +kernel) ha) cc_len (da_cons (d_var (pv 0)) da_nil)) da_nil))) d_str) (d_var (pv 3))) (d_var (pv 4)))))))))
theorem ok__law_text (hd : HdX TB K mg) : FnR P w K mg base CX0 1 ((Loc1.glo "_law_text").at_ K) (SpM (gK K) m__law_text) := by
  obtain ⟨fd, F⟩ := hd.def_ 34
  exact fn_raw (g := gK K) (fk__law_text hd F) (FunD.bindsN F fun _ _ _ _ _ _ us hl => match us, hl with | [_, _], _ => rfl)

theorem sc_Web___eq__ : FnScope ["self", "other"] ["self", "other"] (defScope (mem (top 22) 25)) := ⟨rfl, rfl, rfl, by decide +kernel, rfl, by decide +kernel, by decide +kernel⟩
theorem fk_Web___eq__ (hd : HdX TB K mg) {fd : FuncData} (F : FunD K "__eq__" "Web.__eq__" (defArgs (mem (top 22) 25)) (defBody (mem (top 22) 25)) (defScope (mem (top 22) 25)) [] [] ((Loc1.meth "Web" "__eq__").at_ K) fd) : FnOk P w K mg base CX0 1 ((Loc1.meth "Web" "__eq__").at_ K) fd ["self", "other"] (SpM (gK K) m_Web___eq__) := by
  exact fn_ok (g := gK K) F sc_Web___eq__ fun cdv A outer s H E hr => (ds_one (ds_ret (d_and (d_callB (fun _ hc ha => pe_callB hc rfl (hd.free "isinstance") (by decide +kernel) ha) (cc_isi hd.isi) (da_cons (d_var (pv 1)) (da_cons (d_cls rfl (hd.glo "Web")) da_nil))) (d_and (d_cmp (oo_eqL hr.units) (d_slot (hd.slot "own_heard") (d_var (pv 0))) (d_slot (hd.slot "own_heard") (d_var (pv 1))) (nomark _)) (d_one (d_cmp (oo_eqL hr.units) (d_slot (hd.slot "own_marks") (d_var (pv 0))) (d_slot (hd.slot "own_marks") (d_var (pv 1))) (nomark _)))))))
theorem ok_Web___eq__ (hd : HdX TB K mg) : FnR P w K mg base CX0 1 ((Loc1.meth "Web" "__eq__").at_ K) (SpM (gK K) m_Web___eq__) := by
  obtain ⟨fd, F⟩ := hd.def_ 35
  exact fn_raw (g := gK K) (fk_Web___eq__ hd F) (FunD.bindsN F fun _ _ _ _ _ _ us hl => match us, hl with | [_, _], _ => rfl)

theorem sc__law_web_of : FnScope ["_law_plain"] ["_law_plain"] (defScope (top 31)) := ⟨rfl, rfl, rfl, by decide +kernel, rfl, by decide +kernel, by decide +kernel⟩
theorem fk__law_web_of (hd : HdX TB K mg) {fd : FuncData} (F : FunD K "_law_web_of" "_law_web_of" (defArgs (top 31)) (defBody (top 31)) (defScope (top 31)) [] [] ((Loc1.glo "_law_web_of").at_ K) fd) : FnOk P w K mg base CX0 9 ((Loc1.glo "_law_web_of").at_ K) fd ["_law_plain"] (SpM (gK K) m__law_web_of) := by
  exact fn_ok (g := gK K) F sc__law_web_of fun cdv A outer s H E hr => (ds_one (ds_ret (d_make (hd.mkC "Web") (ok_Web___init__ hd) mkP_Web (hr.mono (by decide)) rfl (hd.glo "Web") (da_cons (d_ix (d_var (pv 0)) d_int (fun _ _ => rfl)) (da_cons (d_ix (d_var (pv 0)) d_int (fun _ _ => rfl)) da_nil)))))
theorem ok__law_web_of (hd : HdX TB K mg) : FnR P w K mg base CX0 9 ((Loc1.glo "_law_web_of").at_ K) (SpM (gK K) m__law_web_of) := by
  obtain ⟨fd, F⟩ := hd.def_ 36
  exact fn_raw (g := gK K) (fk__law_web_of hd F) (FunD.bindsN F fun _ _ _ _ _ _ us hl => match us, hl with | [_], _ => rfl)

theorem sc__law_right : FnScope ["_law_pouch_here", "_law_size", "_law_web", "_law_with_own", "_law_signals_here", "_law_thread", "_law_odd", "_law_other", "_law_heard_here", "_law_marks_here", "_law_row"] ["_law_pouch_here"] (defScope (top 35)) := ⟨rfl, rfl, rfl, by decide +kernel, rfl, by decide +kernel, by decide +kernel⟩
theorem fk__law_right (hd : HdX TB K mg) {fd : FuncData} (F : FunD K "_law_right" "_law_right" (defArgs (top 35)) (defBody (top 35)) (defScope (top 35)) [] [] ((Loc1.glo "_law_right").at_ K) fd) : FnOk P w K mg base CX0 10 ((Loc1.glo "_law_right").at_ K) fd ["_law_pouch_here"] (SpM (gK K) m__law_right) := by
  exact fn_ok (g := gK K) F sc__law_right fun cdv A outer s H E hr => (ds_cons (ds_set (ps_set (i := 1) sc__law_right.nd rfl (by first | exact .inl rfl | exact .inr rfl) (d_op oo_add d_int (d_call (ok__law_coin hd) (hr.mono (by decide)) rfl (hd.glo "_law_coin") (hd.keep "_law_coin") (da_cons (d_var (pv 0)) (da_cons d_int da_nil))))))
    (ds_cons (ds_asg (b := (.t [8, 9])) (d_call (ok__law_plain_web hd) (hr.mono (by decide)) rfl (hd.glo "_law_plain_web") (hd.keep "_law_plain_web") (da_cons (d_var (pv 0)) (da_cons (d_var (pv 1)) da_nil))) (pg_t (is := [8, 9]) rfl (pgs_cons (pg_name (i := 8) sc__law_right.nd rfl (by first | exact .inl rfl | exact .inr rfl)) (pgs_cons (pg_name (i := 9) sc__law_right.nd rfl (by first | exact .inl rfl | exact .inr rfl)) pgs_nil))))
    (ds_cons (ds_set (ps_set (i := 2) sc__law_right.nd rfl (by first | exact .inl rfl | exact .inr rfl) (d_make (hd.mkC "Web") (ok_Web___init__ hd) mkP_Web (hr.mono (by decide)) rfl (hd.glo "Web") (da_cons (d_var (pv 8)) (da_cons (d_var (pv 9)) da_nil)))))
    (ds_cons (by first | exact (ds_lc mkL_ok (own := [("_law_thread", 5)]) (b := (.n 5)) (t := tYesM) (e := (eCallB tupleF (aCons (eCallB sortedA (aCons (eOp (lift2 addP) (eOp ixD (eVar 8) (eVar 5)) (eDisp mkT (aCons (eVar 5) aNil))) aNil)) aNil))) (i := 3) rfl sc__law_right.nd rfl rfl rfl (di_rng1 (pi_range1 rfl (hd.free "range") (da_cons (d_var (pv 1)) da_nil))) (blk_ok (by kernel_rfl)) (fun _ _ _ _ _ => (pg_n (pg_name (i := 5) sc__law_right.nd rfl (by first | exact .inl rfl | exact .inr rfl)))) (fun _ _ _ _ _ => dts_nil) (fun _ _ _ _ _ => (d_callTy (fun _ hc ha => pe_callTy hc rfl (hd.free "tuple") (by decide +kernel) ha) cc_tuple (da_cons (d_callB (fun _ hc ha => pe_callB hc rfl (hd.free "sorted") (by decide +kernel) ha) (cc_sortedA rfl) (da_cons (d_op oo_add (d_ix (d_var (pv 8)) (d_var (pv 5)) (fun _ _ => rfl)) (d_tup (da_cons (d_var (pv 5)) da_nil))) da_nil)) da_nil))) (by decide)) | exact (ds_set (ps_set (i := 3) sc__law_right.nd rfl (by first | exact .inl rfl | exact .inr rfl) (d_lc mkL_ok (own := [("_law_thread", 5)]) (b := (.n 5)) (t := tYesM) (e := (eCallB tupleF (aCons (eCallB sortedA (aCons (eOp (lift2 addP) (eOp ixD (eVar 8) (eVar 5)) (eDisp mkT (aCons (eVar 5) aNil))) aNil)) aNil))) rfl sc__law_right.nd (di_rng1 (pi_range1 rfl (hd.free "range") (da_cons (d_var (pv 1)) da_nil))) (blk_ok (by kernel_rfl)) (fun _ _ _ _ _ => (pg_n (pg_name (i := 5) sc__law_right.nd rfl (by first | exact .inl rfl | exact .inr rfl)))) (fun _ _ _ _ _ => dts_nil) (fun _ _ _ _ _ => (d_callTy (fun _ hc ha => pe_callTy hc rfl (hd.free "tuple") (by decide +kernel) ha) cc_tuple (da_cons (d_callB (fun _ hc ha => pe_callB hc rfl (hd.free "sorted") (by decide +kernel) ha) (cc_sortedA rfl) (da_cons (d_op oo_add (d_ix (d_var (pv 8)) (d_var (pv 5)) (fun _ _ => rfl)) (d_tup (da_cons (d_var (pv 5)) da_nil))) da_nil)) da_nil))) (by decide)))))
    (ds_cons (ds_set (ps_set (i := 4) sc__law_right.nd rfl (by first | exact .inl rfl | exact .inr rfl) (d_callTy (fun _ hc ha => pe_callTy hc rfl (hd.free "tuple") (by decide +kernel) ha) cc_tuple (da_cons (d_lc mkL_ok (own := [("_law_thread", 5)]) (b := (.n 5)) (t := tYesM) (e := (eDisp mkT (aCons (eOp ixD (eVar 3) (eVar 5)) (aCons (eOp ixD (eVar 9) (eVar 5)) aNil)))) rfl sc__law_right.nd (di_rng1 (pi_range1 rfl (hd.free "range") (da_cons (d_var (pv 1)) da_nil))) (blk_ok (by kernel_rfl)) (fun _ _ _ _ _ => (pg_n (pg_name (i := 5) sc__law_right.nd rfl (by first | exact .inl rfl | exact .inr rfl)))) (fun _ _ _ _ _ => dts_nil) (fun _ _ _ _ _ => (d_tup (da_cons (d_ix (d_var (pv 3)) (d_var (pv 5)) (fun _ _ => rfl)) (da_cons (d_ix (d_var (pv 9)) (d_var (pv 5)) (fun _ _ => rfl)) da_nil)))) (by decide)) da_nil))))
    (ds_cons (ds_if (dt_cmp (oo_neL hr.units) (d_lst (da_cons (d_prop (d_var (pv 2)) (hd.cls "Web") (hd.prA "Web" "heard") (hd.prG "Web" "heard") (hd.prT "Web" "heard") (hd.prR "Web" "heard") (ok_Web_heard hd) (hr.mono (by decide))) (da_cons (d_prop (d_var (pv 2)) (hd.cls "Web") (hd.prA "Web" "marks") (hd.prG "Web" "marks") (hd.prT "Web" "marks") (hd.prR "Web" "marks") (ok_Web_marks hd) (hr.mono (by decide))) (da_cons (d_prop (d_var (pv 2)) (hd.cls "Web") (hd.prA "Web" "size") (hd.prG "Web" "size") (hd.prT "Web" "size") (hd.prR "Web" "size") (ok_Web_size hd) (hr.mono (by decide))) (da_cons (d_prop (d_var (pv 2)) (hd.cls "Web") (hd.prA "Web" "signals") (hd.prG "Web" "signals") (hd.prT "Web" "signals") (hd.prR "Web" "signals") (ok_Web_signals hd) (hr.mono (by decide))) (da_cons (d_prop (d_var (pv 2)) (hd.cls "Web") (hd.prA "Web" "is_marked") (hd.prG "Web" "is_marked") (hd.prT "Web" "is_marked") (hd.prR "Web" "is_marked") (ok_Web_is_marked hd) (hr.mono (by decide))) da_nil)))))) (d_lst (da_cons (d_var (pv 8)) (da_cons (d_var (pv 9)) (da_cons (d_var (pv 1)) (da_cons (d_var (pv 4)) (da_cons (d_cmp oo_gt (d_callB (fun _ hc ha => pe_callB hc rfl (hd.free "max") (by decide +kernel) ha) (cc_max rfl hr.u1) (da_cons (d_var (pv 9)) da_nil)) d_int (nomark _)) da_nil)))))) (nomark _))
    (ds_one (ds_ret d_bl))
    ds_nil)
    (ds_cons (ds_if (PW.pt (dw_or (dt_cmp (oo_neL hr.units) (d_prop (d_var (pv 2)) (hd.cls "Web") (hd.prA "Web" "roots") (hd.prG "Web" "roots") (hd.prT "Web" "roots") (hd.prR "Web" "roots") (ok_Web_roots hd) (hr.mono (by decide))) (d_callTy (fun _ hc ha => pe_callTy hc rfl (hd.free "tuple") (by decide +kernel) ha) cc_tuple (da_cons (d_call (ok__law_root_list hd) (hr.mono (by decide)) rfl (hd.glo "_law_root_list") (hd.keep "_law_root_list") (da_cons (d_var (pv 8)) da_nil)) da_nil)) (nomark _)) (dw_or1 (dt_cmp (oo_neL hr.units) (d_callB (fun _ hc ha => pe_callB hc rfl (hd.free "len") (by decide +kernel) ha) (cc_ownLen ⟨hd.own "Web" "__len__", hd.ownF "Web" "__len__", (ok_Web___len__ hd)⟩ (hr.mono (by decide))) (da_cons (d_var (pv 2)) da_nil)) (d_callB (fun _ hc ha => pe_callB hc rfl (hd.free "sum") (by decide +kernel) ha) (cc_sum rfl) (da_cons (d_lc mkL_ok (own := [("_law_row", 10)]) (b := (.n 10)) (t := tYesM) (e := (eCallB lenO (aCons (eVar 10) aNil))) rfl sc__law_right.nd (di_seq (d_var (pv 8))) (blk_ok (by kernel_rfl)) (fun _ _ _ _ _ => (pg_n (pg_name (i := 10) sc__law_right.nd rfl (by first | exact .inl rfl | exact .inr rfl)))) (fun _ _ _ _ _ => dts_nil) (fun _ _ _ _ _ => (d_callB (fun _ hc ha => pe_callB hc rfl (hd.free "len") (by decide +kernel) ha) cc_len (da_cons (d_var (pv 10)) da_nil))) (by decide)) da_nil)) (nomark _)))))
    (ds_one (ds_ret d_bl))
    ds_nil)
    (ds_cons (ds_for (b := (.n 5)) (ps_for PassesOwn.never rfl (di_rng1 (pi_range1 rfl (hd.free "range") (da_cons (d_var (pv 1)) da_nil))) (pg_n (pg_name (i := 5) sc__law_right.nd rfl (by first | exact .inl rfl | exact .inr rfl)))
    (ds_cons (ds_if (PW.pt (dw_or (dt_cmp (oo_neL hr.units) (d_meth (d_var (pv 2)) (hd.cls "Web") (hd.meth "Web" "signal") (ok_Web_signal hd) (hr.mono (by decide)) (da_cons (d_var (pv 5)) da_nil)) (d_ix (d_var (pv 4)) (d_var (pv 5)) (fun _ _ => rfl)) (nomark _)) (dw_or1 (dt_cmp (oo_neL hr.units) (d_meth (d_var (pv 2)) (hd.cls "Web") (hd.meth "Web" "hears") (ok_Web_hears hd) (hr.mono (by decide)) (da_cons (d_var (pv 5)) da_nil)) (d_ix (d_var (pv 3)) (d_var (pv 5)) (fun _ _ => rfl)) (nomark _)))))
    (ds_one (ds_ret d_bl))
    ds_nil)
    (ds_cons (ds_if (dt_cmp (oo_neL hr.units) (d_meth (d_var (pv 2)) (hd.cls "Web") (hd.meth "Web" "reached") (ok_Web_reached hd) (hr.mono (by decide)) (da_cons (d_var (pv 5)) da_nil)) (d_callTy (fun _ hc ha => pe_callTy hc rfl (hd.free "tuple") (by decide +kernel) ha) cc_tuple (da_cons (d_call (pu__law_led hd) (hr.mono (by decide)) rfl (hd.glo "_law_led") (hd.keep "_law_led") (da_cons (d_var (pv 8)) (da_cons (d_var (pv 5)) da_nil))) da_nil)) (nomark _))
    (ds_one (ds_ret d_bl))
    ds_nil)
    (ds_one (ds_if (dt_cmp (oo_neL hr.units) (d_lc mkL_ok (own := [("_law_other", 7)]) (b := (.n 7)) (t := (tCmp (ownIn "Web" m_Web___contains__ false) (eDisp mkT (aCons (eVar 5) (aCons (eVar 7) aNil))) (eVar 2))) (e := (eVar 7)) rfl sc__law_right.nd (di_rng1 (pi_range1 rfl (hd.free "range") (da_cons (d_var (pv 1)) da_nil))) (blk_ok (by kernel_rfl)) (fun _ _ _ _ _ => (pg_n (pg_name (i := 7) sc__law_right.nd rfl (by first | exact .inl rfl | exact .inr rfl)))) (fun _ _ _ _ _ => (dts_one (dt_cmp (oo_ownIn ⟨hd.own "Web" "__contains__", hd.ownF "Web" "__contains__", (ok_Web___contains__ hd)⟩ (hr.mono (by decide))) (d_tup (da_cons (d_var (pv 5)) (da_cons (d_var (pv 7)) da_nil))) (d_var (pv 2)) (by with_unfolding_all rfl)))) (fun _ _ _ _ _ => (d_var (pv 7))) (by decide)) (d_callTy (fun _ hc ha => pe_callTy hc rfl (hd.free "list") (by decide +kernel) ha) cc_list (da_cons (d_ix (d_var (pv 8)) (d_var (pv 5)) (fun _ _ => rfl)) da_nil)) (nomark _))
    (ds_one (ds_ret d_bl))
    ds_nil))))))
    (ds_cons (ds_set (ps_set (i := 6) sc__law_right.nd rfl (by first | exact .inl rfl | exact .inr rfl) (d_call (ok__law_any hd) (hr.mono (by decide)) rfl (hd.glo "_law_any") (hd.keep "_law_any") (da_cons (d_var (pv 0)) (da_cons (d_lst (da_cons d_non (da_cons d_int (da_cons (d_tup (da_cons d_int da_nil)) (da_cons (d_lst (da_cons d_int (da_cons d_int da_nil))) (da_cons (d_tup (da_cons d_int (da_cons d_int da_nil))) (da_cons (d_tup (da_cons d_int (da_cons (d_var (pv 1)) da_nil))) (da_cons (d_tup (da_cons (d_un oo_neg d_int) (da_cons d_int da_nil))) (da_cons (d_tup (da_cons d_bl (da_cons d_int da_nil))) (da_cons (d_tup (da_cons d_str (da_cons d_int da_nil))) (da_cons (d_tup (da_cons d_int (da_cons d_int (da_cons d_int da_nil)))) (da_cons d_newP da_nil)))))))))))) da_nil)))))
    (ds_cons (ds_if (PW.pt (dw_or (dt_cmp (oo_ownIn ⟨hd.own "Web" "__contains__", hd.ownF "Web" "__contains__", (ok_Web___contains__ hd)⟩ (hr.mono (by decide))) (d_var (pv 6)) (d_var (pv 2)) (by with_unfolding_all rfl)) (dw_or1 (dt_cmp (oo_neL hr.units) (d_callTy (fun _ hc ha => pe_callTy hc rfl (hd.free "str") (by decide +kernel) ha) (cc_ownStr ⟨hd.own "Web" "__str__", hd.ownF "Web" "__str__", (ok_Web___str__ hd)⟩ (hr.mono (by decide))) (da_cons (d_var (pv 2)) da_nil)) (d_call (ok__law_text hd) (hr.mono (by decide)) rfl (hd.glo "_law_text") (hd.keep "_law_text") (da_cons (d_var (pv 8)) (da_cons (d_var (pv 9)) da_nil))) (nomark _)))))
    (ds_one (ds_ret d_bl))
    ds_nil)
    (ds_cons (ds_set (ps_set (i := 7) sc__law_right.nd rfl (by first | exact .inl rfl | exact .inr rfl) (d_call (ok__law_plain_web hd) (hr.mono (by decide)) rfl (hd.glo "_law_plain_web") (hd.keep "_law_plain_web") (da_cons (d_var (pv 0)) (da_cons (d_var (pv 1)) da_nil)))))
    (ds_cons (ds_if (PW.pt (dw_or (dt_cmp (oo_neL hr.units) (d_cmp (oo_ownCmp (op := .Eq) (fun _ _ => rfl) ⟨hd.own "Web" "__eq__", hd.ownF "Web" "__eq__", (ok_Web___eq__ hd)⟩ (hd.nf "Web") (hr.mono (by decide))) (d_call (ok__law_web_of hd) (hr.mono (by decide)) rfl (hd.glo "_law_web_of") (hd.keep "_law_web_of") (da_cons (d_var (pv 7)) da_nil)) (d_var (pv 2)) (nomark _)) (d_cmp (oo_eqL hr.units) (d_var (pv 7)) (d_tup (da_cons (d_var (pv 8)) (da_cons (d_var (pv 9)) da_nil))) (nomark _)) (nomark _)) (dw_or1 (dt_cmp (oo_ownCmp (op := .Eq) (fun _ _ => rfl) ⟨hd.own "Web" "__eq__", hd.ownF "Web" "__eq__", (ok_Web___eq__ hd)⟩ (hd.nf "Web") (hr.mono (by decide))) (d_var (pv 2)) (d_tup (da_cons (d_var (pv 8)) (da_cons (d_var (pv 9)) da_nil))) (nomark _)))))
    (ds_one (ds_ret d_bl))
    ds_nil)
    (ds_one (ds_ret (d_or (d_cmp oo_gt (d_callB (fun _ hc ha => pe_callB hc rfl (hd.free "max") (by decide +kernel) ha) (cc_max rfl hr.u1) (da_cons (d_var (pv 9)) da_nil)) d_int (nomark _)) (d_one (d_cmp (oo_ownCmp (op := .Eq) (fun _ _ => rfl) ⟨hd.own "Web" "__eq__", hd.ownF "Web" "__eq__", (ok_Web___eq__ hd)⟩ (hd.nf "Web") (hr.mono (by decide))) (d_make (hd.mkC "Web") (ok_Web___init___d1 hd) mkP_Web1 (hr.mono (by decide)) rfl (hd.glo "Web") (da_cons (d_var (pv 8)) da_nil)) (d_var (pv 2)) (nomark _))))))))))))))))))
theorem ok__law_right (hd : HdX TB K mg) : FnR P w K mg base CX0 10 ((Loc1.glo "_law_right").at_ K) (SpM (gK K) m__law_right) := by
  obtain ⟨fd, F⟩ := hd.def_ 37
  exact fn_raw (g := gK K) (fk__law_right hd F) (FunD.bindsN F fun _ _ _ _ _ _ us hl => match us, hl with | [_], _ => rfl)

theorem sc_law : FnScope ["_law_script", "_law_at", "_law_ring", "_law_text_here", "_law_pouch_here", "_law_turn"] ["_law_script"] (defScope (top 36)) := ⟨rfl, rfl, rfl, by decide +kernel, rfl, by decide +kernel, by decide +kernel⟩
theorem fk_law (hd : HdX TB K mg) {fd : FuncData} (F : FunD K "law" "law" (defArgs (top 36)) (defBody (top 36)) (defScope (top 36)) [] [] ((Loc1.glo "law").at_ K) fd) : FnOk P w K mg base CX0 11 ((Loc1.glo "law").at_ K) fd ["_law_script"] (SpM (gK K) m_law) := by
  exact fn_ok (g := gK K) F sc_law fun cdv A outer s H E hr => (ds_cons (ds_for (b := (.n 1)) (ps_for PassesOwn.never rfl (di_rng1 (pi_range1 rfl (hd.free "range") (da_cons (d_callB (fun _ hc ha => pe_callB hc rfl (hd.free "max") (by decide +kernel) ha) (cc_max rfl hr.u1) (da_cons d_int (da_cons (d_callB (fun _ hc ha => pe_callB hc rfl (hd.free "min") (by decide +kernel) ha) (cc_min rfl hr.u1) (da_cons d_int (da_cons (d_callB (fun _ hc ha => pe_callB hc rfl (hd.free "len") (by decide +kernel) ha) cc_len (da_cons (d_var (pv 0)) da_nil)) da_nil))) da_nil))) da_nil))) (pg_n (pg_name (i := 1) sc_law.nd rfl (by first | exact .inl rfl | exact .inr rfl)))
    (ds_cons (ds_set (ps_set (i := 4) sc_law.nd rfl (by first | exact .inl rfl | exact .inr rfl) (d_call (ok__law_pouch hd) (hr.mono (by decide)) rfl (hd.glo "_law_pouch") (hd.keep "_law_pouch") (da_cons (d_var (pv 0)) (da_cons (d_var (pv 1)) da_nil)))))
    (ds_one (ds_for (b := (.n 5)) (ps_for PassesOwn.never rfl (di_rng1 (pi_range1 rfl (hd.free "range") (da_cons d_int da_nil))) (pg_n (pg_name (i := 5) sc_law.nd rfl (by first | exact .inl rfl | exact .inr rfl)))
    (ds_one (ds_if (dt_not (dt_tru (d_call (ok__law_right hd) (hr.mono (by decide)) rfl (hd.glo "_law_right") (hd.keep "_law_right") (da_cons (d_var (pv 4)) da_nil))))
    (ds_one (ds_ret d_bl))
    ds_nil))))))))
    (ds_cons (ds_set (ps_set (i := 2) sc_law.nd rfl (by first | exact .inl rfl | exact .inr rfl) (d_make (hd.mkC "Web") (ok_Web___init__ hd) mkP_Web (hr.mono (by decide)) rfl (hd.glo "Web") (da_cons (d_tup (da_cons (d_tup (da_cons d_int da_nil)) (da_cons (d_tup (da_cons d_int da_nil)) (da_cons (d_tup (da_cons d_int da_nil)) (da_cons (d_tup (da_cons d_int da_nil)) (da_cons (d_tup (da_cons d_int da_nil)) da_nil)))))) (da_cons (d_tup (da_cons d_int (da_cons d_int (da_cons d_int (da_cons d_int (da_cons d_int da_nil)))))) da_nil)))))
    (ds_cons (ds_set (ps_set (i := 3) sc_law.nd rfl (by first | exact .inl rfl | exact .inr rfl) d_str))
    (ds_one (ds_ret (d_and (d_cmp (oo_eqL hr.units) (d_prop (d_var (pv 2)) (hd.cls "Web") (hd.prA "Web" "roots") (hd.prG "Web" "roots") (hd.prT "Web" "roots") (hd.prR "Web" "roots") (ok_Web_roots hd) (hr.mono (by decide))) (d_tup (da_cons d_int (da_cons d_int (da_cons d_int (da_cons d_int (da_cons d_int da_nil)))))) (nomark _)) (d_and (d_cmp (oo_eqL hr.units) (d_callTy (fun _ hc ha => pe_callTy hc rfl (hd.free "str") (by decide +kernel) ha) (cc_ownStr ⟨hd.own "Web" "__str__", hd.ownF "Web" "__str__", (ok_Web___str__ hd)⟩ (hr.mono (by decide))) (da_cons (d_var (pv 2)) da_nil)) (d_var (pv 3)) (nomark _)) (d_one (d_cmp (oo_eqL hr.units) (d_meth (d_var (pv 2)) (hd.cls "Web") (hd.meth "Web" "reached") (ok_Web_reached hd) (hr.mono (by decide)) (da_cons d_int da_nil)) (d_tup (da_cons d_int (da_cons d_int (da_cons d_int (da_cons d_int (da_cons d_int da_nil)))))) (nomark _))))))))))
theorem ok_law (hd : HdX TB K mg) : FnR P w K mg base CX0 11 ((Loc1.glo "law").at_ K) (SpM (gK K) m_law) := by
  obtain ⟨fd, F⟩ := hd.def_ 38
  exact fn_raw (g := gK K) (fk_law hd F) (FunD.bindsN F fun _ _ _ _ _ _ us hl => match us, hl with | [_], _ => rfl)
end

end DL

set_option maxHeartbeats 4000000
open PySem PySem.W PySem.Calls PyProof.Rows
set_option maxHeartbeats 0
theorem PySem.Challenge.cw_poolmaps_k01_webs_told_by_walks_holds : PySem.Challenge.rw_poolmaps_k01_webs_told_by_walks.Holds := by
  w_on; o_law
  refine HandSHeadRun.head_any (r := OpenLaw.row PySem.Challenge.rw_poolmaps_k01_webs_told_by_walks) (q := view (OpenLaw.row PySem.Challenge.rw_poolmaps_k01_webs_told_by_walks).prog [36]) (H := DL.hkX) (ob := DL.obX) (M := 6000) (loose := DL.looseN) (d := HandSHeadRun.topDef (OpenLaw.row PySem.Challenge.rw_poolmaps_k01_webs_told_by_walks).prog 36) (kwd := []) DL.obX_eq
    (by kernel_rfl) (fun s => by kernel_rfl) DL.runX (by kernel_rfl) (by kernel_rfl) (by kernel_rfl) (by rfl) (by first | assumption | decide +kernel) (by decide +kernel) ⟨rfl, rfl, rfl, rfl, rfl, by decide +kernel⟩ ?hw ?hc
  case hw => w_witness2
  case hc =>
    refine L2.walk_ofE (l := PySem.Challenge.rw_poolmaps_k01_webs_told_by_walks) (n := 63) (k := 11) (x := "_law_script") (CX := L2.CX0) rfl (by decide) (by kernel_rfl) ⟨rfl, by decide, by decide⟩ ?F (fun _ _ _ _ z => z)
    intro w mg fa h Y G hmg0
    obtain ⟨K, KX, c⟩ := Y
    have hd : DL.HdX DL.TB K mg := ⟨c, h, KX, G⟩
    have hmg : mg ("law" : PySem.Str) = some (.ref fa) := by
      have e : (HandSHeadRun.topDef (OpenLaw.row PySem.Challenge.rw_poolmaps_k01_webs_told_by_walks).prog 36).name = ("law" : PySem.Str) := by kernel_rfl
      rw [← e]
      exact hmg0
    have e := hmg.symm.trans (hd.glo "law")
    cases e
    obtain ⟨fd, F⟩ := hd.def_ 38
    have b := L2.FunD.bindsA (ps := ["_law_script"]) F fun _ _ _ _ _ _ us hl => match us, hl with | [_], _ => rfl
    exact ⟨K, fd, DL.SpM (DL.gK K) DL.m_law, KX, fun s v => b s [v] rfl, fun H a ns hl _ hS => DL.end_of hd hS (DL.law_true ns hl) _, fun base _ _ => DL.fk_law hd F⟩
