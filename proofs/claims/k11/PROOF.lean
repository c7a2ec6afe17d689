import PyProof.Rows.All
import Wide.All
import OpenK.AllK
import Wide.FinOn
import PySem.Challenge.RW_overbar_k11_spans_are_sets_of_minutes
import HandS.ForMost
import HandS.Exc
import HandS.TryOnly
import KE.DataEq
import KE.DataCmp
import KE.DataMinMax
import KE.DataIsa
import KE.DataFind
import KE.SortData
import HandS.StrMore
import HandS.Small
import HandS.Deep
import HandS.CallSlots
import HandS.Flow
import HandS.Head4
import HandS.HeadHook2
import HandS.Defaults
import HandS.HeadEnd
import HandS.Head0
import HandS.Head1
import HandS.Head2
import HandS.HeadHook1
set_option Elab.async false
set_option linter.all false
set_option maxRecDepth 100000
set_option maxHeartbeats 8000000
/-! P, part 0: data D, and how a value of the abstract heap bears it. -/
namespace PD
open PySem L2

inductive Fl | f | o | oo | l | ll | k
  deriving DecidableEq

/-- data, as the pure evaluator sees it; a mutable node bears who may write it: f nobody (frozen), o its one holder (children frozen), oo its one holder (children may be owned), l, ll lent for a while, k locked (the script, a constant of the top) -/
inductive D where
  | non | bl (b : Bool) | int (i : Int) | str (s : Str)
  | tup (xs : List D)
  | lst (m : Fl) (xs : List D)
  | dic (m : Fl) (kvs : List (Key × D))
  | dit (m : Fl) (kvs : List (List Key × D))
  | ins (m : Fl) (c : Nat) (fs : List (Nat × D))
  | exc (c : Nat) (fs : List (Nat × D))

def isF : D → Bool
  | .lst m _ => m == .f || m == .k
  | .dic m _ => m == .f
  | .dit m _ => m == .f
  | .ins m _ _ => m == .f
  | .exc _ _ => false
  | _ => true

mutual
/-- nobody writes it any more -/
def frz : D → D
  | .lst m xs => match m with | .oo => .lst .f (frzL xs) | .k => .lst .k xs | _ => .lst .f xs
  | .dic m kvs => .dic .f (match m with | .oo => frzK kvs | _ => kvs)
  | .dit _ kvs => .dit .f kvs
  | .ins m c fs => .ins .f c (match m with | .f => fs | _ => frzN fs)
  | d => d
def frzL : List D → List D
  | [] => []
  | d :: r => frz d :: frzL r
def frzK : List (Key × D) → List (Key × D)
  | [] => []
  | (k, d) :: r => (k, frz d) :: frzK r
def frzN : List (Nat × D) → List (Nat × D)
  | [] => []
  | (k, d) :: r => (k, frz d) :: frzN r
end
mutual
/-- read by others for a while -/
def lend : D → D
  | .lst m xs => match m with | .o => .lst .l xs | .oo => .lst .ll (lendL xs) | m => .lst m xs
  | .dic m kvs => match m with | .o => .dic .l kvs | .oo => .dic .ll (lendK kvs) | m => .dic m kvs
  | .dit m kvs => match m with | .o => .dit .l kvs | m => .dit m kvs
  | .ins m c fs => match m with | .oo => .ins .ll c (lendN fs) | m => .ins m c fs
  | d => d
def lendL : List D → List D
  | [] => []
  | d :: r => lend d :: lendL r
def lendK : List (Key × D) → List (Key × D)
  | [] => []
  | (k, d) :: r => (k, lend d) :: lendK r
def lendN : List (Nat × D) → List (Nat × D)
  | [] => []
  | (k, d) :: r => (k, lend d) :: lendN r
end
theorem frzL_eq : ∀ xs : List D, frzL xs = xs.map frz
  | [] => rfl
  | d :: r => by rw [frzL, frzL_eq r]; rfl
theorem frzK_eq : ∀ xs : List (Key × D), frzK xs = xs.map fun p => (p.1, frz p.2)
  | [] => rfl
  | (k, d) :: r => by rw [frzK, frzK_eq r]; rfl
theorem frzN_eq : ∀ xs : List (Nat × D), frzN xs = xs.map fun p => (p.1, frz p.2)
  | [] => rfl
  | (k, d) :: r => by rw [frzN, frzN_eq r]; rfl
theorem lendL_eq : ∀ xs : List D, lendL xs = xs.map lend
  | [] => rfl
  | d :: r => by rw [lendL, lendL_eq r]; rfl
theorem lendK_eq : ∀ xs : List (Key × D), lendK xs = xs.map fun p => (p.1, lend p.2)
  | [] => rfl
  | (k, d) :: r => by rw [lendK, lendK_eq r]; rfl
theorem lendN_eq : ∀ xs : List (Nat × D), lendN xs = xs.map fun p => (p.1, lend p.2)
  | [] => rfl
  | (k, d) :: r => by rw [lendN, lendN_eq r]; rfl

/-- what of the text is written: K, the classes by number, the attributes' names by number -/
structure GC where
  K : PySem.W.Frag
  cls : Nat → Addr
  fld : Nat → Str

abbrev AS := Addr → Prop
def S0 : AS := fun _ => False
/-- a list, a tuple of the written part -/
def KwL (K : PySem.W.Frag) (a : Addr) (xs : List V) : Prop :=
  ∃ (o : Obj) (its : Array Value) (n : Nat), K.lookup a = some o ∧ o.cls = .type "list" ∧ o.dict = none ∧ o.data = .seq its n ∧ its.size ≤ sizeLine ∧ Vals xs its.toList
def KwT (K : PySem.W.Frag) (a : Addr) (xs : List V) : Prop :=
  ∃ (o : Obj) (its : Array Value) (n : Nat), K.lookup a = some o ∧ o.cls = .type "tuple" ∧ o.data = .seq its n ∧ its.size ≤ sizeLine ∧ Vals xs its.toList
/-- element by element -/
def El {α β : Type} (R : α → β → Prop) (xs : List α) (ys : List β) : Prop := xs.length = ys.length ∧ ∀ (i : Nat) x y, xs[i]? = some x → ys[i]? = some y → R x y

/-- frozen data: all that it reaches lies in Z -/
inductive RepF (G : GC) (Z : AS) (H : Hp) : D → V → Prop
  | non : RepF G Z H .non .non
  | bl (b : Bool) : RepF G Z H (.bl b) (.bl b)
  | int (i : Int) : RepF G Z H (.int i) (.int i)
  | str (s : Str) : RepF G Z H (.str s) (.str s)
  | tup {a : Addr} {xs : List D} {vs : List V} (h : (Z a ∧ Rd H a (.tup vs)) ∨ KwT G.K a vs) (hl : xs.length = vs.length) (he : ∀ (i : Nat) d v, xs[i]? = some d → vs[i]? = some v → RepF G Z H d v) : RepF G Z H (.tup xs) (.ref a)
  | lsk {a : Addr} {xs : List D} {vs : List V} (h : (Z a ∧ Rd H a (.lst vs)) ∨ KwL G.K a vs) (hl : xs.length = vs.length) (he : ∀ (i : Nat) d v, xs[i]? = some d → vs[i]? = some v → RepF G Z H d v) : RepF G Z H (.lst .k xs) (.ref a)
  | lst {a : Addr} {xs : List D} {vs : List V} (z : Z a) (h : H a = some (.lst vs)) (hl : xs.length = vs.length) (he : ∀ (i : Nat) d v, xs[i]? = some d → vs[i]? = some v → RepF G Z H d v) : RepF G Z H (.lst .f xs) (.ref a)
  | dic {a : Addr} {kvs : List (Key × D)} {ws : List (Key × V)} (z : Z a) (h : H a = some (.dK ws)) (hl : kvs.map (·.1) = ws.map (·.1)) (he : ∀ (i : Nat) p q, kvs[i]? = some p → ws[i]? = some q → RepF G Z H p.2 q.2) : RepF G Z H (.dic .f kvs) (.ref a)
  | dit {a : Addr} {kvs : List (List Key × D)} {ws : List (List Key × V)} (z : Z a) (h : H a = some (.dT ws)) (hl : kvs.map (·.1) = ws.map (·.1)) (he : ∀ (i : Nat) p q, kvs[i]? = some p → ws[i]? = some q → RepF G Z H p.2 q.2) : RepF G Z H (.dit .f kvs) (.ref a)
  | ins {a dx : Addr} {c : Nat} {fs : List (Nat × D)} {gs : List (Str × V)} (z : Z a) (h : H a = some (.ins (G.cls c) dx gs)) (hl : fs.map (fun p => G.fld p.1) = gs.map (·.1)) (he : ∀ (i : Nat) p q, fs[i]? = some p → gs[i]? = some q → RepF G Z H p.2 q.2) : RepF G Z H (.ins .f c fs) (.ref a)

/-- data with the addresses A that its holder owns; S: what is lent -/
inductive Rep (G : GC) (Z S : AS) (H : Hp) : D → V → AS → Prop
  | fz {d : D} {v : V} {A : AS} (h : RepF G Z H d v) (hA : ∀ x, ¬ A x) : Rep G Z S H d v A
  | lo {a : Addr} {xs : List D} {vs : List V} {A : AS} (h : H a = some (.lst vs)) (hl : xs.length = vs.length) (he : ∀ (i : Nat) d v, xs[i]? = some d → vs[i]? = some v → RepF G Z H d v) (hA : ∀ x, A x ↔ x = a) : Rep G Z S H (.lst .o xs) (.ref a) A
  | loo {a : Addr} {xs : List D} {vs : List V} {A : AS} (B : Nat → AS) (h : H a = some (.lst vs)) (hl : xs.length = vs.length) (he : ∀ (i : Nat) d v, xs[i]? = some d → vs[i]? = some v → Rep G Z S H d v (B i))
      (hd : ∀ i j x, B i x → B j x → i = j) (hn : ∀ i, ¬ B i a) (ho : ∀ i x, B i x → i < xs.length) (hA : ∀ x, A x ↔ (x = a ∨ ∃ i, B i x)) : Rep G Z S H (.lst .oo xs) (.ref a) A
  | ll {a : Addr} {xs : List D} {vs : List V} {A : AS} (s : S a) (h : H a = some (.lst vs)) (hl : xs.length = vs.length) (he : ∀ (i : Nat) d v, xs[i]? = some d → vs[i]? = some v → RepF G Z H d v) (hA : ∀ x, ¬ A x) : Rep G Z S H (.lst .l xs) (.ref a) A
  | lll {a : Addr} {xs : List D} {vs : List V} {A : AS} (s : S a) (h : H a = some (.lst vs)) (hl : xs.length = vs.length) (he : ∀ (i : Nat) d v, xs[i]? = some d → vs[i]? = some v → Rep G Z S H d v S0) (hA : ∀ x, ¬ A x) : Rep G Z S H (.lst .ll xs) (.ref a) A
  | dco {a : Addr} {xs : List (Key × D)} {ws : List (Key × V)} {A : AS} (h : H a = some (.dK ws)) (hl : xs.map (·.1) = ws.map (·.1)) (he : ∀ (i : Nat) p q, xs[i]? = some p → ws[i]? = some q → RepF G Z H p.2 q.2) (hA : ∀ x, A x ↔ x = a) : Rep G Z S H (.dic .o xs) (.ref a) A
  | dcoo {a : Addr} {xs : List (Key × D)} {ws : List (Key × V)} {A : AS} (B : Nat → AS) (h : H a = some (.dK ws)) (hl : xs.map (·.1) = ws.map (·.1)) (he : ∀ (i : Nat) p q, xs[i]? = some p → ws[i]? = some q → Rep G Z S H p.2 q.2 (B i))
      (hd : ∀ i j x, B i x → B j x → i = j) (hn : ∀ i, ¬ B i a) (ho : ∀ i x, B i x → i < xs.length) (hA : ∀ x, A x ↔ (x = a ∨ ∃ i, B i x)) : Rep G Z S H (.dic .oo xs) (.ref a) A
  | dcl {a : Addr} {xs : List (Key × D)} {ws : List (Key × V)} {A : AS} (s : S a) (h : H a = some (.dK ws)) (hl : xs.map (·.1) = ws.map (·.1)) (he : ∀ (i : Nat) p q, xs[i]? = some p → ws[i]? = some q → RepF G Z H p.2 q.2) (hA : ∀ x, ¬ A x) : Rep G Z S H (.dic .l xs) (.ref a) A
  | dcll {a : Addr} {xs : List (Key × D)} {ws : List (Key × V)} {A : AS} (s : S a) (h : H a = some (.dK ws)) (hl : xs.map (·.1) = ws.map (·.1)) (he : ∀ (i : Nat) p q, xs[i]? = some p → ws[i]? = some q → Rep G Z S H p.2 q.2 S0) (hA : ∀ x, ¬ A x) : Rep G Z S H (.dic .ll xs) (.ref a) A
  | dto {a : Addr} {xs : List (List Key × D)} {ws : List (List Key × V)} {A : AS} (h : H a = some (.dT ws)) (hl : xs.map (·.1) = ws.map (·.1)) (he : ∀ (i : Nat) p q, xs[i]? = some p → ws[i]? = some q → RepF G Z H p.2 q.2) (hA : ∀ x, A x ↔ x = a) : Rep G Z S H (.dit .o xs) (.ref a) A
  | dtl {a : Addr} {xs : List (List Key × D)} {ws : List (List Key × V)} {A : AS} (s : S a) (h : H a = some (.dT ws)) (hl : xs.map (·.1) = ws.map (·.1)) (he : ∀ (i : Nat) p q, xs[i]? = some p → ws[i]? = some q → RepF G Z H p.2 q.2) (hA : ∀ x, ¬ A x) : Rep G Z S H (.dit .l xs) (.ref a) A
  | ioo {a dx : Addr} {c : Nat} {xs : List (Nat × D)} {ws : List (Str × V)} {A : AS} (B : Nat → AS) (h : H a = some (.ins (G.cls c) dx ws)) (hl : xs.map (fun p => G.fld p.1) = ws.map (·.1)) (he : ∀ (i : Nat) p q, xs[i]? = some p → ws[i]? = some q → Rep G Z S H p.2 q.2 (B i))
      (hd : ∀ i j x, B i x → B j x → i = j) (hn : ∀ i, ¬ B i a) (ho : ∀ i x, B i x → i < xs.length) (hA : ∀ x, A x ↔ (x = a ∨ ∃ i, B i x)) : Rep G Z S H (.ins .oo c xs) (.ref a) A
  | ill {a dx : Addr} {c : Nat} {xs : List (Nat × D)} {ws : List (Str × V)} {A : AS} (s : S a) (h : H a = some (.ins (G.cls c) dx ws)) (hl : xs.map (fun p => G.fld p.1) = ws.map (·.1)) (he : ∀ (i : Nat) p q, xs[i]? = some p → ws[i]? = some q → Rep G Z S H p.2 q.2 S0) (hA : ∀ x, ¬ A x) : Rep G Z S H (.ins .ll c xs) (.ref a) A

section
variable {G : GC} {Z Z' S S' : AS} {H H' : Hp}
theorem Rd.keep {a : Addr} {u : HO} (k : ∀ o, H a = some o → H' a = some o) (r : Rd H a u) : Rd H' a u := by
  rcases r with r | ⟨o, r⟩
  · exact .inl (k _ r)
  · exact .inr ⟨o, k _ r⟩
theorem RepF.mono (hz : ∀ a, Z a → Z' a) (k : ∀ a, Z a → ∀ o, H a = some o → H' a = some o) {d : D} {v : V} (r : RepF G Z H d v) : RepF G Z' H' d v := by
  induction r with
  | non => exact .non
  | bl b => exact .bl b
  | int i => exact .int i
  | str s => exact .str s
  | tup h hl he ih => exact .tup (h.imp (fun ⟨z, q⟩ => ⟨hz _ z, Rd.keep (k _ z) q⟩) id) hl ih
  | lsk h hl he ih => exact .lsk (h.imp (fun ⟨z, q⟩ => ⟨hz _ z, Rd.keep (k _ z) q⟩) id) hl ih
  | lst z h hl he ih => exact .lst (hz _ z) (k _ z _ h) hl ih
  | dic z h hl he ih => exact .dic (hz _ z) (k _ z _ h) hl ih
  | dit z h hl he ih => exact .dit (hz _ z) (k _ z _ h) hl ih
  | ins z h hl he ih => exact .ins (hz _ z) (k _ z _ h) hl ih
theorem Rep.mono {d : D} {v : V} {A : AS} (r : Rep G Z S H d v A) : ∀ (hz : ∀ a, Z a → Z' a) (hs : ∀ a, S a → S' a) (k : ∀ a, (Z a ∨ S a ∨ A a) → ∀ o, H a = some o → H' a = some o), Rep G Z' S' H' d v A := by
  induction r with
  | fz h hA => exact fun hz hs k => .fz (h.mono hz fun a z => k a (.inl z)) hA
  | lo h hl he hA => exact fun hz hs k => .lo (k _ (.inr (.inr ((hA _).mpr rfl))) _ h) hl (fun i d v e1 e2 => (he i d v e1 e2).mono hz fun a z => k a (.inl z)) hA
  | loo B h hl he hd hn ho hA ih => exact fun hz hs k => .loo B (k _ (.inr (.inr ((hA _).mpr (.inl rfl)))) _ h) hl (fun i d v e1 e2 => ih i d v e1 e2 hz hs fun a z => k a (z.imp id (·.imp id fun q => (hA _).mpr (.inr ⟨i, q⟩)))) hd hn ho hA
  | ll s h hl he hA => exact fun hz hs k => .ll (hs _ s) (k _ (.inr (.inl s)) _ h) hl (fun i d v e1 e2 => (he i d v e1 e2).mono hz fun a z => k a (.inl z)) hA
  | lll s h hl he hA ih => exact fun hz hs k => .lll (hs _ s) (k _ (.inr (.inl s)) _ h) hl (fun i d v e1 e2 => ih i d v e1 e2 hz hs fun a z => k a (z.imp id (·.imp id fun q => q.elim))) hA
  | dco h hl he hA => exact fun hz hs k => .dco (k _ (.inr (.inr ((hA _).mpr rfl))) _ h) hl (fun i d v e1 e2 => (he i d v e1 e2).mono hz fun a z => k a (.inl z)) hA
  | dcoo B h hl he hd hn ho hA ih => exact fun hz hs k => .dcoo B (k _ (.inr (.inr ((hA _).mpr (.inl rfl)))) _ h) hl (fun i d v e1 e2 => ih i d v e1 e2 hz hs fun a z => k a (z.imp id (·.imp id fun q => (hA _).mpr (.inr ⟨i, q⟩)))) hd hn ho hA
  | dcl s h hl he hA => exact fun hz hs k => .dcl (hs _ s) (k _ (.inr (.inl s)) _ h) hl (fun i d v e1 e2 => (he i d v e1 e2).mono hz fun a z => k a (.inl z)) hA
  | dcll s h hl he hA ih => exact fun hz hs k => .dcll (hs _ s) (k _ (.inr (.inl s)) _ h) hl (fun i d v e1 e2 => ih i d v e1 e2 hz hs fun a z => k a (z.imp id (·.imp id fun q => q.elim))) hA
  | dto h hl he hA => exact fun hz hs k => .dto (k _ (.inr (.inr ((hA _).mpr rfl))) _ h) hl (fun i d v e1 e2 => (he i d v e1 e2).mono hz fun a z => k a (.inl z)) hA
  | dtl s h hl he hA => exact fun hz hs k => .dtl (hs _ s) (k _ (.inr (.inl s)) _ h) hl (fun i d v e1 e2 => (he i d v e1 e2).mono hz fun a z => k a (.inl z)) hA
  | ioo B h hl he hd hn ho hA ih => exact fun hz hs k => .ioo B (k _ (.inr (.inr ((hA _).mpr (.inl rfl)))) _ h) hl (fun i d v e1 e2 => ih i d v e1 e2 hz hs fun a z => k a (z.imp id (·.imp id fun q => (hA _).mpr (.inr ⟨i, q⟩)))) hd hn ho hA
  | ill s h hl he hA ih => exact fun hz hs k => .ill (hs _ s) (k _ (.inr (.inl s)) _ h) hl (fun i d v e1 e2 => ih i d v e1 e2 hz hs fun a z => k a (z.imp id (·.imp id fun q => q.elim))) hA
theorem Rep.own {d : D} {v : V} {A : AS} (r : Rep G Z S H d v A) : ∀ x, A x → ∃ o, H x = some o := by
  have two : ∀ {α β γ : Type} {f : α → γ} {g : β → γ} {xs : List α} {ys : List β} {i : Nat}, xs.map f = ys.map g → i < xs.length → ∃ p q, xs[i]? = some p ∧ ys[i]? = some q := fun {α β γ f g xs ys i} e h => by
    have l : xs.length = ys.length := by simpa using congrArg List.length e
    have h2 : i < ys.length := l ▸ h
    exact ⟨xs[i], ys[i], by simp [h], by simp [h2]⟩
  induction r with
  | fz h hA => exact fun x z => (hA x z).elim
  | lo h hl he hA => exact fun x z => by rw [(hA x).mp z]; exact ⟨_, h⟩
  | @loo a xs vs A B h hl he hd hn ho hA ih =>
    intro x z
    rcases (hA x).mp z with z | ⟨i, z⟩
    · rw [z]; exact ⟨_, h⟩
    · have l1 := ho i x z
      have l2 : i < vs.length := hl ▸ l1
      exact ih i xs[i] vs[i] (by simp [l1]) (by simp [l2]) x z
  | ll s h hl he hA => exact fun x z => (hA x z).elim
  | lll s h hl he hA ih => exact fun x z => (hA x z).elim
  | dco h hl he hA => exact fun x z => by rw [(hA x).mp z]; exact ⟨_, h⟩
  | dcoo B h hl he hd hn ho hA ih =>
    intro x z
    rcases (hA x).mp z with z | ⟨i, z⟩
    · rw [z]; exact ⟨_, h⟩
    · obtain ⟨p, q, e1, e2⟩ := two hl (ho i x z)
      exact ih i p q e1 e2 x z
  | dcl s h hl he hA => exact fun x z => (hA x z).elim
  | dcll s h hl he hA ih => exact fun x z => (hA x z).elim
  | dto h hl he hA => exact fun x z => by rw [(hA x).mp z]; exact ⟨_, h⟩
  | dtl s h hl he hA => exact fun x z => (hA x z).elim
  | ioo B h hl he hd hn ho hA ih =>
    intro x z
    rcases (hA x).mp z with z | ⟨i, z⟩
    · rw [z]; exact ⟨_, h⟩
    · obtain ⟨p, q, e1, e2⟩ := two hl (ho i x z)
      exact ih i p q e1 e2 x z
  | ill s h hl he hA ih => exact fun x z => (hA x z).elim
/-- the same addresses, told otherwise -/
theorem Rep.congr {d : D} {v : V} {A A' : AS} (r : Rep G Z S H d v A) (h : ∀ x, A' x ↔ A x) : Rep G Z S H d v A' := by
  have e : A' = A := funext fun x => propext (h x)
  rw [e]; exact r
theorem Rep.frozen {d : D} {v : V} {A : AS} (r : Rep G Z S H d v A) (h : isF d = true) : RepF G Z H d v ∧ ∀ x, ¬ A x := by
  cases r <;> first | exact ⟨by assumption, by assumption⟩ | (exact absurd (show false = true from h) Bool.false_ne_true)
theorem getMap {α β : Type} {f : α → β} {xs : List α} {i : Nat} {y : β} (h : (xs.map f)[i]? = some y) : ∃ x, xs[i]? = some x ∧ f x = y := by
  rw [List.getElem?_map] at h
  cases e : xs[i]? with
  | none => rw [e] at h; cases h
  | some x => rw [e] at h; exact ⟨x, rfl, Option.some.inj h⟩
/-- freezing: what is owned goes to Z -/
theorem Rep.freeze {d : D} {v : V} {A : AS} (r : Rep G Z S0 H d v A) : RepF G (fun x => Z x ∨ A x) H (frz d) v := by
  generalize hS : S0 = S' at r
  have mz : ∀ {A : AS} {d v}, RepF G Z H d v → RepF G (fun x => Z x ∨ A x) H d v := fun q => q.mono (fun _ z => .inl z) fun _ _ _ e => e
  have nf : ∀ {d v}, RepF G Z H d v → frz d = d := fun q => by cases q <;> rfl
  induction r with
  | fz h hA => rw [nf h]; exact mz h
  | lo h hl he hA => exact .lst (.inr ((hA _).mpr rfl)) h hl fun i d v e1 e2 => mz (he i d v e1 e2)
  | @loo a xs vs A B h hl he hd hn ho hA ih =>
    show RepF _ _ _ (.lst .f (frzL xs)) _
    rw [frzL_eq]
    refine .lst (.inr ((hA _).mpr (.inl rfl))) h (by simpa using hl) fun i d v e1 e2 => ?_
    obtain ⟨x, ex, rfl⟩ := getMap e1
    exact (ih i x v ex e2).mono (fun y z => z.imp id fun q => (hA _).mpr (.inr ⟨i, q⟩)) fun _ _ _ e => e
  | ll s h hl he hA => rw [← hS] at s; exact s.elim
  | lll s h hl he hA ih => rw [← hS] at s; exact s.elim
  | dco h hl he hA => exact .dic (.inr ((hA _).mpr rfl)) h hl fun i d v e1 e2 => mz (he i d v e1 e2)
  | @dcoo a xs ws A B h hl he hd hn ho hA ih =>
    show RepF _ _ _ (.dic .f (frzK xs)) _
    rw [frzK_eq]
    refine .dic (.inr ((hA _).mpr (.inl rfl))) h (by rw [← hl, List.map_map]; rfl) fun i d v e1 e2 => ?_
    obtain ⟨x, ex, rfl⟩ := getMap e1
    exact (ih i x v ex e2).mono (fun y z => z.imp id fun q => (hA _).mpr (.inr ⟨i, q⟩)) fun _ _ _ e => e
  | dcl s h hl he hA => rw [← hS] at s; exact s.elim
  | dcll s h hl he hA ih => rw [← hS] at s; exact s.elim
  | dto h hl he hA => exact .dit (.inr ((hA _).mpr rfl)) h hl fun i d v e1 e2 => mz (he i d v e1 e2)
  | dtl s h hl he hA => rw [← hS] at s; exact s.elim
  | @ioo a dx c xs ws A B h hl he hd hn ho hA ih =>
    show RepF _ _ _ (.ins .f c (frzN xs)) _
    rw [frzN_eq]
    refine .ins (.inr ((hA _).mpr (.inl rfl))) h (by rw [← hl, List.map_map]; rfl) fun i d v e1 e2 => ?_
    obtain ⟨x, ex, rfl⟩ := getMap e1
    exact (ih i x v ex e2).mono (fun y z => z.imp id fun q => (hA _).mpr (.inr ⟨i, q⟩)) fun _ _ _ e => e
  | ill s h hl he hA ih => rw [← hS] at s; exact s.elim
/-- lending: what is owned is lent -/
theorem Rep.lent {d : D} {v : V} {A : AS} (r : Rep G Z S H d v A) : Rep G Z (fun x => S x ∨ A x) H (lend d) v S0 := by
  have nf : ∀ {d v}, RepF G Z H d v → lend d = d := fun q => by cases q <;> rfl
  have up : ∀ {A B : AS} {d v}, (∀ x, B x → A x) → Rep G Z (fun x => S x ∨ B x) H d v S0 → Rep G Z (fun x => S x ∨ A x) H d v S0 := fun h q => q.mono (fun _ z => z) (fun _ z => z.imp id (h _)) fun _ _ _ e => e
  have n0 : ∀ x, ¬ S0 x := fun x h => h
  induction r with
  | fz h hA => rw [nf h]; exact .fz h n0
  | lo h hl he hA => exact .ll (.inr ((hA _).mpr rfl)) h hl he n0
  | @loo a xs vs A B h hl he hd hn ho hA ih =>
    show Rep _ _ _ _ (.lst .ll (lendL xs)) _ _
    rw [lendL_eq]
    refine .lll (.inr ((hA _).mpr (.inl rfl))) h (by simpa using hl) (fun i d v e1 e2 => ?_) n0
    obtain ⟨x, ex, rfl⟩ := getMap e1
    exact up (fun y q => (hA _).mpr (.inr ⟨i, q⟩)) (ih i x v ex e2)
  | ll s h hl he hA => exact .ll (.inl s) h hl he n0
  | lll s h hl he hA ih => exact .lll (.inl s) h hl (fun i d v e1 e2 => (he i d v e1 e2).mono (fun _ z => z) (fun _ z => .inl z) fun _ _ _ e => e) n0
  | dco h hl he hA => exact .dcl (.inr ((hA _).mpr rfl)) h hl he n0
  | @dcoo a xs ws A B h hl he hd hn ho hA ih =>
    show Rep _ _ _ _ (.dic .ll (lendK xs)) _ _
    rw [lendK_eq]
    refine .dcll (.inr ((hA _).mpr (.inl rfl))) h (by rw [← hl, List.map_map]; rfl) (fun i d v e1 e2 => ?_) n0
    obtain ⟨x, ex, rfl⟩ := getMap e1
    exact up (fun y q => (hA _).mpr (.inr ⟨i, q⟩)) (ih i x v ex e2)
  | dcl s h hl he hA => exact .dcl (.inl s) h hl he n0
  | dcll s h hl he hA ih => exact .dcll (.inl s) h hl (fun i d v e1 e2 => (he i d v e1 e2).mono (fun _ z => z) (fun _ z => .inl z) fun _ _ _ e => e) n0
  | dto h hl he hA => exact .dtl (.inr ((hA _).mpr rfl)) h hl he n0
  | dtl s h hl he hA => exact .dtl (.inl s) h hl he n0
  | @ioo a dx c xs ws A B h hl he hd hn ho hA ih =>
    show Rep _ _ _ _ (.ins .ll c (lendN xs)) _ _
    rw [lendN_eq]
    refine .ill (.inr ((hA _).mpr (.inl rfl))) h (by rw [← hl, List.map_map]; rfl) (fun i d v e1 e2 => ?_) n0
    obtain ⟨x, ex, rfl⟩ := getMap e1
    exact up (fun y q => (hA _).mpr (.inr ⟨i, q⟩)) (ih i x v ex e2)
  | ill s h hl he hA ih => exact .ill (.inl s) h hl (fun i d v e1 e2 => (he i d v e1 e2).mono (fun _ z => z) (fun _ z => .inl z) fun _ _ _ e => e) n0
end
end PD
/-! P, part 1: states, steps, readings of expressions and of arguments. -/
namespace PD
open PySem L2

abbrev DS := List (Option D)
structure Xc where
  c : Nat
  fs : List (Nat × D)
inductive RR (α : Type) where
  | ok (a : α)
  | ex (x : Xc)
abbrev ER := RR D × DS
abbrev EA := RR (List D) × DS

def Own (FS : Nat → AS) : AS := fun x => ∃ i, FS i x

structure Step (H : Hp) (Z P : AS) (H' : Hp) (Z' P' : AS) : Prop where
  keep : ∀ a o, H a = some o → ¬ P a → H' a = some o
  there : ∀ a o, H a = some o → ∃ o', H' a = some o'
  zin : ∀ a, Z a → Z' a
  znew : ∀ a, Z' a → Z a ∨ P a ∨ H a = none
  pnew : ∀ a, P' a → P a ∨ H a = none
theorem Step.refl (H : Hp) (Z P : AS) : Step H Z P H Z P := ⟨fun _ _ e _ => e, fun _ o e => ⟨o, e⟩, fun _ z => z, fun _ z => .inl z, fun _ z => .inl z⟩
theorem Step.trans {H H1 H2 : Hp} {Z Z1 Z2 P P1 P2 : AS} (a : Step H Z P H1 Z1 P1) (b : Step H1 Z1 P1 H2 Z2 P2) : Step H Z P H2 Z2 P2 where
  keep := fun x o e n => b.keep x o (a.keep x o e n) fun z => (a.pnew x z).elim n fun q => by rw [q] at e; cases e
  there := fun x o e => let ⟨o1, e1⟩ := a.there x o e; b.there x o1 e1
  zin := fun x z => b.zin x (a.zin x z)
  znew := fun x z => by
    have back : H1 x = none → H x = none := fun q => by
      cases e : H x with
      | none => rfl
      | some o => obtain ⟨o', e'⟩ := a.there x o e; rw [e'] at q; cases q
    rcases b.znew x z with z | z | z
    · exact a.znew x z
    · exact (a.pnew x z).elim (fun q => .inr (.inl q)) fun q => .inr (.inr q)
    · exact .inr (.inr (back z))
  pnew := fun x z => by
    rcases b.pnew x z with z | z
    · exact a.pnew x z
    · refine .inr ?_
      cases e : H x with
      | none => rfl
      | some o => obtain ⟨o', e'⟩ := a.there x o e; rw [e'] at z; cases z
theorem Step.same {H H' : Hp} {Z P P' : AS} (s : Same H H') (h : ∀ a, P' a → P a ∨ H a = none) : Step H Z P H' Z P' := ⟨fun a o e _ => s a o e, fun a o e => ⟨o, s a o e⟩, fun _ z => z, fun _ z => .inl z, h⟩
theorem Step.sub {H H' : Hp} {Z Z' P P' P2 : AS} (s : Step H Z P H' Z' P') (h : ∀ a, P2 a → P' a) : Step H Z P H' Z' P2 := { s with pnew := fun a z => s.pnew a (h a z) }
/-- more is held ahead -/
theorem Step.up {H H' : Hp} {Z Z' P P' P1 : AS} (s : Step H Z P H' Z' P') (h : ∀ a, P a → P1 a) : Step H Z P1 H' Z' P' :=
  { keep := fun a o e n => s.keep a o e fun z => n (h a z), there := s.there, zin := s.zin, znew := fun a z => (s.znew a z).imp id (·.imp (h a) id), pnew := fun a z => (s.pnew a z).imp (h a) id }

/-- the slots' data: FS i is what slot i owns, S i what is lent to it -/
structure SR (G : GC) (Z : AS) (S : Nat → AS) (H : Hp) (δ : DS) (σ : St) (FS : Nat → AS) : Prop where
  len : δ.length = σ.length
  slot : ∀ (i : Nat) d, δ[i]? = some (some d) → ∃ v, σ[i]? = some (some v) ∧ Rep G Z (S i) H d v (FS i)
  empt : ∀ (i : Nat), (∀ d, δ[i]? ≠ some (some d)) → ∀ x, ¬ FS i x
  disj : ∀ i j x, FS i x → FS j x → i = j
  zs : ∀ a, Z a → ∃ o, H a = some o
  ss : ∀ a, Own S a → ∃ o, H a = some o
  nz : ∀ a, Own FS a → ¬ Z a ∧ ¬ Own S a
section
variable {G : GC} {Z Z' : AS} {H H' : Hp} {δ δ' : DS} {σ : St} {FS FS' : Nat → AS} {d : D} {v : V} {A P P' : AS}
theorem SR.own {S : Nat → AS} (r : SR G Z S H δ σ FS) : ∀ x, Own FS x → ∃ o, H x = some o := fun x ⟨i, h⟩ => by
  cases e : δ[i]? with
  | none => exact (r.empt i (fun d q => by rw [e] at q; cases q) x h).elim
  | some q =>
    cases q with
    | none => exact (r.empt i (fun d q => by rw [e] at q; cases q) x h).elim
    | some d =>
      obtain ⟨v, _, rp⟩ := r.slot i d e
      exact rp.own x h
/-- a value that lies outside of what is held stays through a step -/
theorem Rep.step {S : AS} (r : Rep G Z S H d v A) (s : Step H Z P H' Z' P') (hz : ∀ a, P a → ¬ Z a ∧ ¬ S a) (hA : ∀ a, A a → ¬ P a) : Rep G Z' S H' d v A :=
  r.mono s.zin (fun _ z => z) fun a z o e => s.keep a o e fun p => by
    rcases z with z | z | z
    · exact (hz a p).1 z
    · exact (hz a p).2 z
    · exact hA a z p
theorem RepF.step (r : RepF G Z H d v) (s : Step H Z P H' Z' P') (hz : ∀ a, P a → ¬ Z a) : RepF G Z' H' d v :=
  r.mono s.zin fun a z o e => s.keep a o e fun p => hz a p z
theorem Rep.same {S : AS} (r : Rep G Z S H d v A) (s : Same H H') : Rep G Z S H' d v A := r.mono (fun _ z => z) (fun _ z => z) fun a _ o e => s a o e
theorem RepF.same (r : RepF G Z H d v) (s : Same H H') : RepF G Z H' d v := r.mono (fun _ z => z) fun a _ o e => s a o e
theorem SR.same {S : Nat → AS} (r : SR G Z S H δ σ FS) (s : Same H H') : SR G Z S H' δ σ FS :=
  ⟨r.len, fun i d e => let ⟨v, e1, rp⟩ := r.slot i d e; ⟨v, e1, rp.same s⟩, r.empt, r.disj, fun a z => let ⟨o, e⟩ := r.zs a z; ⟨o, s a o e⟩, fun a z => let ⟨o, e⟩ := r.ss a z; ⟨o, s a o e⟩, r.nz⟩
theorem Rep.any {S : Nat → AS} {i : Nat} (r : Rep G Z (S i) H d v A) : Rep G Z (Own S) H d v A := r.mono (fun _ z => z) (fun _ z => ⟨i, z⟩) fun _ _ _ e => e
theorem Rep.s0 {S : AS} (r : Rep G Z S0 H d v A) : Rep G Z S H d v A := r.mono (fun _ z => z) (fun _ z => z.elim) fun _ _ _ e => e
end

/-- an exception told -/
def XR (G : GC) (Z : AS) (H : Hp) (x : Xc) (cls : Value) (dd : Option Addr) : Prop :=
  cls = .ref (G.cls x.c) ∧ ((x.fs = [] ∧ dd = none) ∨ ∃ a gs, dd = some a ∧ Z a ∧ H a = some (.xd gs) ∧ x.fs.map (fun p => G.fld p.1) = gs.map (·.1) ∧ ∀ (i : Nat) p q, x.fs[i]? = some p → gs[i]? = some q → RepF G Z H p.2 q.2)

/-- behind an expression -/
structure PostE (G : GC) (S : Nat → AS) (vw qt : Bool) (σ : St) (H : Hp) (Z : AS) (FS : Nat → AS) (d : D) (δ' : DS) (v : V) (H' : Hp) (Z' : AS) (FS' : Nat → AS) (A : AS) : Prop where
  sr : SR G Z' S H' δ' σ FS'
  st : Step H Z (Own FS) H' Z' (fun x => Own FS' x ∨ A x)
  vl : if vw = true then Rep G Z' (Own S) H' d v A ∧ (∀ x, A x → Own FS' x) else Rep G Z' S0 H' d v A ∧ ∀ x, A x → ¬ Z' x ∧ ¬ Own S x ∧ ¬ Own FS' x
  qq : qt = true → FS' = FS ∧ Same H H'
/-- behind an exception -/
structure PostX (G : GC) (S : Nat → AS) (σ : St) (H : Hp) (Z : AS) (FS : Nat → AS) (x : Xc) (δ' : DS) (c : Value) (dd : Option Addr) (H' : Hp) (Z' : AS) (FS' : Nat → AS) : Prop where
  sr : SR G Z' S H' δ' σ FS'
  st : Step H Z (Own FS) H' Z' (Own FS')
  xr : XR G Z' H' x c dd

def rdE (G : GC) (W : WX) (vw qt : Bool) (f : DS → Option ER) : TE := fun σ H Q => ∃ δ Z S FS, SR G Z S H δ σ FS ∧ (∃ r, f δ = some r) ∧
  (∀ d δ', f δ = some (.ok d, δ') → ∀ v H' Z' FS' A, PostE G S vw qt σ H Z FS d δ' v H' Z' FS' A → Q v H') ∧
  (∀ x δ', f δ = some (.ex x, δ') → ∀ c dd H' Z' FS', PostX G S σ H Z FS x δ' c dd H' Z' FS' → W c dd σ H')

/-- the arguments' values: ks tells which are views; the others are held by the list itself -/
structure ArgR (G : GC) (Z S : AS) (H : Hp) (FS : Nat → AS) (ks : List Bool) (ds : List D) (vs : List V) (B : Nat → AS) : Prop where
  l1 : ds.length = vs.length
  l2 : ks.length = ds.length
  rep : ∀ (j : Nat) d v k, ds[j]? = some d → vs[j]? = some v → ks[j]? = some k → if k = true then Rep G Z S H d v (B j) ∧ (∀ x, B j x → Own FS x) else Rep G Z S0 H d v (B j) ∧ ∀ x, B j x → ¬ Z x ∧ ¬ S x ∧ ¬ Own FS x
  disj : ∀ i j x, ks[i]? = some false → ks[j]? = some false → B i x → B j x → i = j
/-- what the list holds -/
def Tm (ks : List Bool) (B : Nat → AS) : AS := fun x => ∃ j, ks[j]? = some false ∧ B j x
structure PostA (G : GC) (S : Nat → AS) (ks : List Bool) (qt : Bool) (σ : St) (H : Hp) (Z : AS) (FS : Nat → AS) (ds : List D) (δ' : DS) (vs : List V) (H' : Hp) (Z' : AS) (FS' : Nat → AS) (B : Nat → AS) : Prop where
  sr : SR G Z' S H' δ' σ FS'
  st : Step H Z (Own FS) H' Z' (fun x => Own FS' x ∨ Tm ks B x)
  ar : ArgR G Z' (Own S) H' FS' ks ds vs B
  qq : qt = true → FS' = FS ∧ Same H H'
def rdA (G : GC) (W : WX) (ks : List Bool) (qt : Bool) (f : DS → Option EA) : TA := fun σ H Q => ∃ δ Z S FS, SR G Z S H δ σ FS ∧ (∃ r, f δ = some r) ∧
  (∀ ds δ', f δ = some (.ok ds, δ') → ∀ vs H' Z' FS' B, PostA G S ks qt σ H Z FS ds δ' vs H' Z' FS' B → Q vs H') ∧
  (∀ x δ', f δ = some (.ex x, δ') → ∀ c dd H' Z' FS', PostX G S σ H Z FS x δ' c dd H' Z' FS' → W c dd σ H')

/-- the arguments that are names -/
def VR (vr : List (Option Nat)) (σ : St) (vs : List V) : Prop := ∀ (j i : Nat), vr[j]? = some (some i) → ∃ v, vs[j]? = some v ∧ σ[i]? = some (some v)
def rdAV (G : GC) (W : WX) (ks : List Bool) (vr : List (Option Nat)) (qt : Bool) (f : DS → Option EA) : TA := fun σ H Q => ∃ δ Z S FS, SR G Z S H δ σ FS ∧ (∃ r, f δ = some r) ∧
  (∀ ds δ', f δ = some (.ok ds, δ') → ∀ vs H' Z' FS' B, PostA G S ks qt σ H Z FS ds δ' vs H' Z' FS' B → VR vr σ vs → Q vs H') ∧
  (∀ x δ', f δ = some (.ex x, δ') → ∀ c dd H' Z' FS', PostX G S σ H Z FS x δ' c dd H' Z' FS' → W c dd σ H')

/-! ### the evaluator's pieces -/
def evVar (i : Nat) : DS → Option ER := fun δ => match δ[i]? with
  | some (some d) => some (.ok d, δ)
  | _ => none
def evCst (d : D) : DS → Option ER := fun δ => some (.ok d, δ)
def evNil : DS → Option EA := fun δ => some (.ok [], δ)
/-- vw: the first is a view; qr: the rest changes nothing -/
def evCons (vw qr : Bool) (fa : DS → Option ER) (fr : DS → Option EA) : DS → Option EA := fun δ => match fa δ with
  | none => none
  | some (.ex x, δ1) => some (.ex x, δ1)
  | some (.ok d, δ1) => if vw && !qr && !isF d then none else match fr δ1 with
    | none => none
    | some (.ex x, δ2) => some (.ex x, δ2)
    | some (.ok ds, δ2) => some (.ok (d :: ds), δ2)
/-- a name: what it holds behind the rest -/
def evDefer (i : Nat) (fr : DS → Option EA) : DS → Option EA := fun δ => match δ[i]? with
  | some (some _) => match fr δ with
    | none => none
    | some (.ex x, δ2) => some (.ex x, δ2)
    | some (.ok ds, δ2) => match δ2[i]? with
      | some (some d) => some (.ok (d :: ds), δ2)
      | _ => none
  | _ => none

section
variable {G : GC} {W : WX} {X : Cx}
theorem PE.mono {e : Expr} {t t' : TE} (h : PE X e t) (m : ∀ σ H Q, t' σ H Q → t σ H Q) : PE X e t' := ⟨fun pins s σ H Q I q => h.run pins s σ H Q I (m σ H Q q)⟩
theorem PT.mono {e : Expr} {t t' : TT} (h : PT X e t) (m : ∀ σ H Q, t' σ H Q → t σ H Q) : PT X e t' := ⟨fun pins s σ H Q I q => h.run pins s σ H Q I (m σ H Q q)⟩
theorem PA.mono {e : List Expr} {t t' : TA} (h : PA X e t) (m : ∀ σ H Q, t' σ H Q → t σ H Q) : PA X e t' := ⟨fun pos pins s σ H Q I q => h.run pos pins s σ H Q I (m σ H Q q)⟩
theorem PS.mono {e : Stmt} {t t' : TS} (h : PS X e t) (m : ∀ D σ H, t' D σ H → t D σ H) : PS X e t' := ⟨fun pins s σ H D I q => h.run pins s σ H D I (m D σ H q)⟩
theorem PSs.mono {e : List Stmt} {t t' : TS} (h : PSs X e t) (m : ∀ D σ H, t' D σ H → t D σ H) : PSs X e t' := ⟨fun pins s σ H D I q => h.run pins s σ H D I (m D σ H q)⟩

theorem Step.quiet {H : Hp} {Z : AS} {FS : Nat → AS} {A : AS} (h : ∀ x, A x → Own FS x) : Step H Z (Own FS) H Z (fun x => Own FS x ∨ A x) := (Step.refl H Z (Own FS)).sub fun a z => z.elim id (h a)
theorem not_none {α : Type} {a : α} {p : Prop} (h : (none : Option α) = some a) : p := by cases h

theorem ok_inj {α : Type} {a b : α} {δ δ' : DS} (h : (some (RR.ok a, δ) : Option (RR α × DS)) = some (.ok b, δ')) : a = b ∧ δ = δ' := by cases h; exact ⟨rfl, rfl⟩
theorem ok_ex {α : Type} {a : α} {x : Xc} {δ δ' : DS} {p : Prop} (h : (some (RR.ok a, δ) : Option (RR α × DS)) = some (.ex x, δ')) : p := by cases h

theorem rd_var {i : Nat} : ∀ σ H Q, rdE G W true true (evVar i) σ H Q → tVar i σ H Q := by
  rintro σ H Q ⟨δ, Z, S, FS, sr, ⟨r, hr⟩, ok, -⟩
  unfold evVar at hr
  split at hr
  · rename_i d e
    obtain ⟨v, ev, rp⟩ := sr.slot i d e
    refine ⟨v, ev, ok d δ (by unfold evVar; rw [e]) v H Z FS (FS i) ⟨sr, Step.quiet fun x h => ⟨i, h⟩, ?_, fun _ => ⟨rfl, fun _ _ e => e⟩⟩⟩
    rw [if_pos rfl]; exact ⟨rp.any, fun x h => ⟨i, h⟩⟩
  · cases hr
/-- a scalar written -/
theorem rd_cst {d : D} {v : V} (h : ∀ Z H, RepF G Z H d v) : ∀ σ H Q, rdE G W false true (evCst d) σ H Q → tC v σ H Q := by
  rintro σ H Q ⟨δ, Z, S, FS, sr, -, ok, -⟩
  refine ok d δ rfl v H Z FS S0 ⟨sr, Step.quiet fun x h => h.elim, ?_, fun _ => ⟨rfl, fun _ _ e => e⟩⟩
  rw [if_neg Bool.false_ne_true]; exact ⟨.fz (h Z H) fun x h => h, fun x h => h.elim⟩
theorem rdAV.to {ks : List Bool} {vr : List (Option Nat)} {qt : Bool} {f : DS → Option EA} {σ : St} {H : Hp} {Q : List V → Hp → Prop} (h : rdA G W ks qt f σ H Q) : rdAV G W ks vr qt f σ H Q := by
  obtain ⟨δ, Z, S, FS, sr, h1, ok, ex⟩ := h
  exact ⟨δ, Z, S, FS, sr, h1, fun ds δ' e vs H' Z' FS' B p _ => ok ds δ' e vs H' Z' FS' B p, ex⟩
theorem VR.nil {σ : St} {vs : List V} : VR [] σ vs := fun j i h => by simp at h
theorem rdAV.of {ks : List Bool} {qt : Bool} {f : DS → Option EA} {σ : St} {H : Hp} {Q : List V → Hp → Prop} (h : rdAV G W ks [] qt f σ H Q) : rdA G W ks qt f σ H Q := by
  obtain ⟨δ, Z, S, FS, sr, h1, ok, ex⟩ := h
  exact ⟨δ, Z, S, FS, sr, h1, fun ds δ' e vs H' Z' FS' B p => ok ds δ' e vs H' Z' FS' B p VR.nil, ex⟩
theorem rd_nilV : ∀ σ H Q, rdAV G W [] [] true evNil σ H Q → tNil σ H Q := by
  rintro σ H Q ⟨δ, Z, S, FS, sr, -, ok, -⟩
  exact ok [] δ rfl [] H Z FS (fun _ => S0) ⟨sr, Step.quiet fun x ⟨j, h, _⟩ => by simp at h, ⟨rfl, rfl, fun j d v k e => by simp at e, fun i j x h => by simp at h⟩, fun _ => ⟨rfl, fun _ _ e => e⟩⟩ VR.nil
theorem rd_nil : ∀ σ H Q, rdA G W [] true evNil σ H Q → tNil σ H Q := fun σ H Q h => rd_nilV σ H Q (rdAV.to h)
theorem rd_deferV {i : Nat} {ks : List Bool} {vr : List (Option Nat)} {qr : Bool} {fr : DS → Option EA} {tr : TA} (hr : ∀ σ H Q, rdAV G W ks vr qr fr σ H Q → tr σ H Q) :
    ∀ σ H Q, rdAV G W (true :: ks) (some i :: vr) qr (evDefer i fr) σ H Q → tCons (tVar i) tr σ H Q := by
  rintro σ H Q ⟨δ, Z, S, FS, sr, ⟨r, hf⟩, ok, ex⟩
  unfold evDefer at hf ok ex
  cases e : δ[i]? with
  | none => rw [e] at hf; cases hf
  | some q =>
    cases q with
    | none => rw [e] at hf; cases hf
    | some d0 =>
      simp only [e] at hf ok ex
      obtain ⟨v, ev, rp⟩ := sr.slot i d0 e
      refine ⟨v, ev, ?_⟩
      refine hr σ H _ ⟨δ, Z, S, FS, sr, ?_, fun ds δ' h vs H' Z' FS' B p hV => ?_, fun x δ' h => ?_⟩
      · cases q : fr δ with
        | none => rw [q] at hf; cases hf
        | some w => exact ⟨w, rfl⟩
      · rw [h] at hf ok
        simp only at hf ok
        cases e2 : δ'[i]? with
        | none => rw [e2] at hf; cases hf
        | some q2 =>
          cases q2 with
          | none => rw [e2] at hf; cases hf
          | some d =>
            rw [e2] at ok
            obtain ⟨v2, ev2, rp2⟩ := p.sr.slot i d e2
            have ve : v2 = v := by rw [ev] at ev2; exact (Option.some.inj (Option.some.inj ev2)).symm
            subst ve
            refine ok (d :: ds) δ' rfl (v2 :: vs) H' Z' FS' (fun j => match j with | 0 => FS' i | j + 1 => B j) ⟨p.sr, p.st.sub fun a z => ?_, ⟨by simp [p.ar.l1], by simp [p.ar.l2], fun j d' v' k h1 h2 h3 => ?_, fun j j' x h1 h2 b1 b2 => ?_⟩, p.qq⟩ fun j k hk => ?_
            · rcases z with z | ⟨j, hj, z⟩
              · exact .inl z
              · cases j with
                | zero => simp at hj
                | succ j => exact .inr ⟨j, by simpa using hj, z⟩
            · cases j with
              | zero =>
                simp at h1 h2 h3
                subst h1 h2 h3
                rw [if_pos rfl]; exact ⟨rp2.any, fun x h => ⟨i, h⟩⟩
              | succ j => exact p.ar.rep j d' v' k (by simpa using h1) (by simpa using h2) (by simpa using h3)
            · cases j with
              | zero => simp at h1
              | succ j =>
                cases j' with
                | zero => simp at h2
                | succ j' => rw [p.ar.disj j j' x (by simpa using h1) (by simpa using h2) b1 b2]
            · cases j with
              | zero => simp at hk; subst hk; exact ⟨v2, rfl, ev2⟩
              | succ j => exact hV j k (by simpa using hk)
      · rw [h] at ex
        exact ex x δ' rfl
theorem rd_defer {i : Nat} {ks : List Bool} {qr : Bool} {fr : DS → Option EA} {tr : TA} (hr : ∀ σ H Q, rdA G W ks qr fr σ H Q → tr σ H Q) :
    ∀ σ H Q, rdA G W (true :: ks) qr (evDefer i fr) σ H Q → tCons (tVar i) tr σ H Q := fun σ H Q h => rd_deferV (vr := []) (fun σ H Q h => hr σ H Q (rdAV.of h)) σ H Q (rdAV.to h)
/-- an argument ahead of the others -/
theorem rd_consV {vw qa qr : Bool} {ks : List Bool} {vr : List (Option Nat)} {fa : DS → Option ER} {fr : DS → Option EA} {ta : TE} {tr : TA} (ha : ∀ σ H Q, rdE G W vw qa fa σ H Q → ta σ H Q) (hr : ∀ σ H Q, rdAV G W ks vr qr fr σ H Q → tr σ H Q) (hv : vw = true → qa = true) :
    ∀ σ H Q, rdAV G W (vw :: ks) (none :: vr) (qa && qr) (evCons vw qr fa fr) σ H Q → tCons ta tr σ H Q := by
  rintro σ H Q ⟨δ, Z, S, FS, sr, ⟨r, hf⟩, ok, ex⟩
  unfold evCons at hf ok ex
  refine ha σ H _ ⟨δ, Z, S, FS, sr, ?_, fun d δ1 h v H1 Z1 FS1 A p => ?_, fun x δ1 h => ?_⟩
  · cases q : fa δ with
    | none => rw [q] at hf; cases hf
    | some w => exact ⟨w, rfl⟩
  · rw [h] at hf ok ex
    simp only at hf ok ex
    by_cases hc : (vw && !qr && !isF d) = true
    · rw [if_pos hc] at hf; cases hf
    · rw [if_neg hc] at hf
      rw [if_neg hc] at ok ex
      refine hr σ H1 _ ⟨δ1, Z1, S, FS1, p.sr, ?_, fun ds δ2 h2 vs H2 Z2 FS2 B p2 hV => ?_, fun x δ2 h2 c dd H2 Z2 FS2 p2 => ?_⟩
      · cases q : fr δ1 with
        | none => rw [q] at hf; cases hf
        | some w => exact ⟨w, rfl⟩
      · rw [h2] at ok
        have fresh : ∀ x, A x → (∃ o, H1 x = some o) := fun x hx => by
          have vl := p.vl
          split at vl
          · exact vl.1.own x hx
          · exact vl.1.own x hx
        -- the first value behind the rest
        have keep : (if vw = true then Rep G Z2 (Own S) H2 d v A ∧ (∀ x, A x → Own FS2 x) else Rep G Z2 S0 H2 d v A ∧ ∀ x, A x → ¬ Z2 x ∧ ¬ Own S x ∧ ¬ Own FS2 x) := by
          have vl := p.vl
          cases hvw : vw with
          | true =>
            rw [hvw, if_pos rfl] at vl
            rw [if_pos rfl]
            by_cases hq : qr = true
            · obtain ⟨z2, z3⟩ := p2.qq hq
              rw [z2]
              exact ⟨vl.1.mono p2.st.zin (fun _ z => z) fun a _ o e => z3 a o e, vl.2⟩
            · have hF : isF d = true := by
                cases q : isF d with
                | true => rfl
                | false => exact absurd (by simp [hvw, hq, q]) hc
              obtain ⟨rf, nA⟩ := vl.1.frozen hF
              exact ⟨.fz (rf.step p2.st fun a z => (p.sr.nz a z).1) nA, fun x h => (nA x h).elim⟩
          | false =>
            rw [hvw, if_neg Bool.false_ne_true] at vl
            rw [if_neg Bool.false_ne_true]
            refine ⟨vl.1.step p2.st (fun a h => ⟨(p.sr.nz a h).1, fun z => z⟩) fun a h => (vl.2 a h).2.2, fun x hx => ?_⟩
            obtain ⟨n1, n2, n3⟩ := vl.2 x hx
            obtain ⟨o, eo⟩ := fresh x hx
            refine ⟨fun z => ?_, n2, fun z => ?_⟩
            · rcases p2.st.znew x z with z | z | z
              · exact n1 z
              · exact n3 z
              · rw [z] at eo; cases eo
            · rcases p2.st.pnew x (.inl z) with z | z
              · exact n3 z
              · rw [z] at eo; cases eo
        have apart : vw = false → ∀ j x, ks[j]? = some false → B j x → A x → False := fun hvw j x hj hb hx => by
          have vl := p.vl
          rw [hvw, if_neg Bool.false_ne_true] at vl
          obtain ⟨o, eo⟩ := fresh x hx
          rcases p2.st.pnew x (.inr ⟨j, hj, hb⟩) with z | z
          · exact (vl.2 x hx).2.2 z
          · rw [z] at eo; cases eo
        refine ok (d :: ds) δ2 rfl (v :: vs) H2 Z2 FS2 (fun j => match j with | 0 => A | j + 1 => B j) ⟨p2.sr, ?_, ⟨by simp [p2.ar.l1], by simp [p2.ar.l2], fun j d' v' k h1 h2 h3 => ?_, fun j j' x h1 h2 b1 b2 => ?_⟩, fun hq => ?_⟩ fun j k hk => ?_
        · refine ⟨fun a o e n => ?_, fun a o e => ?_, fun a z => p2.st.zin a (p.st.zin a z), fun a z => ?_, fun a z => ?_⟩
          · refine p2.st.keep a o (p.st.keep a o e n) fun z => ?_
            rcases p.st.pnew a (.inl z) with z | z
            · exact n z
            · rw [z] at e; cases e
          · obtain ⟨o1, e1⟩ := p.st.there a o e
            exact p2.st.there a o1 e1
          · have t := (p.st.sub (P2 := Own FS1) fun a z => .inl z).trans p2.st
            exact t.znew a z
          · have t := (p.st.sub (P2 := Own FS1) fun a z => .inl z).trans p2.st
            rcases z with z | ⟨j, hj, z⟩
            · exact t.pnew a (.inl z)
            · cases j with
              | zero => exact p.st.pnew a (.inr z)
              | succ j => exact t.pnew a (.inr ⟨j, by simpa using hj, z⟩)
        · cases j with
          | zero =>
            simp at h1 h2 h3
            subst h1 h2 h3
            exact keep
          | succ j => exact p2.ar.rep j d' v' k (by simpa using h1) (by simpa using h2) (by simpa using h3)
        · cases j with
          | zero =>
            cases j' with
            | zero => rfl
            | succ j' => exact (apart (by simpa using h1) j' x (by simpa using h2) b2 b1).elim
          | succ j =>
            cases j' with
            | zero => exact (apart (by simpa using h2) j x (by simpa using h1) b1 b2).elim
            | succ j' => rw [p2.ar.disj j j' x (by simpa using h1) (by simpa using h2) b1 b2]
        · obtain ⟨q1, q2⟩ := Bool.and_eq_true_iff.mp hq
          obtain ⟨a2, a3⟩ := p.qq q1
          obtain ⟨b2, b3⟩ := p2.qq q2
          exact ⟨b2.trans a2, a3.trans b3⟩
        · cases j with
          | zero => simp at hk
          | succ j => exact hV j k (by simpa using hk)
      · rw [h2] at ex
        exact ex x δ2 rfl c dd H2 Z2 FS2 ⟨p2.sr, (p.st.sub (P2 := Own FS1) fun a z => .inl z).trans p2.st, p2.xr⟩
  · rw [h] at ex
    exact ex x δ1 rfl
theorem rd_cons {vw qa qr : Bool} {ks : List Bool} {fa : DS → Option ER} {fr : DS → Option EA} {ta : TE} {tr : TA} (ha : ∀ σ H Q, rdE G W vw qa fa σ H Q → ta σ H Q) (hr : ∀ σ H Q, rdA G W ks qr fr σ H Q → tr σ H Q) (hv : vw = true → qa = true) :
    ∀ σ H Q, rdA G W (vw :: ks) (qa && qr) (evCons vw qr fa fr) σ H Q → tCons ta tr σ H Q := fun σ H Q h => rd_consV (vr := []) ha (fun σ H Q h => hr σ H Q (rdAV.of h)) hv σ H Q (rdAV.to h)
end
end PD
/-! P, part 2: data as the library reads it; the operations by values. -/
namespace PD
open PySem L2

mutual
def toP : D → PyData
  | .non => .none
  | .bl b => .bool b
  | .int i => .int i
  | .str x => .str x
  | .tup xs => .tuple (toPL xs)
  | .lst _ xs => .list (toPL xs)
  | _ => .none
def toPL : List D → List PyData
  | [] => []
  | d :: r => toP d :: toPL r
end
theorem toPL_eq : ∀ xs : List D, toPL xs = xs.map toP
  | [] => rfl
  | d :: r => by rw [toPL, toPL_eq r]; rfl
mutual
/-- data without dicts and instances, at most n deep -/
def dp : Nat → D → Bool
  | _, .non | _, .bl _ | _, .int _ | _, .str _ => true
  | 0, _ => false
  | n + 1, .tup xs => dpL n xs
  | n + 1, .lst _ xs => dpL n xs
  | _ + 1, .dic _ _ | _ + 1, .dit _ _ | _ + 1, .ins _ _ _ | _ + 1, .exc _ _ => false
def dpL : Nat → List D → Bool
  | _, [] => true
  | n, d :: r => dp n d && dpL n r
end
theorem dpL_all (n : Nat) : ∀ xs : List D, dpL n xs = xs.all (dp n)
  | [] => by simp [dpL]
  | d :: r => by rw [dpL, dpL_all n r]; rfl
mutual
theorem dp_plain : ∀ (n : Nat) (d : D), dp n d = true → (toP d).plain = true ∧ (toP d).depth ≤ n
  | n, .non, _ => by simp [toP, PyData.plain, PyData.depth]
  | n, .bl b, _ => by simp [toP, PyData.plain, PyData.depth]
  | n, .int i, _ => by simp [toP, PyData.plain, PyData.depth]
  | n, .str s, _ => by simp [toP, PyData.plain, PyData.depth]
  | 0, .tup xs, h => by simp [dp] at h
  | 0, .lst m xs, h => by simp [dp] at h
  | 0, .dic m xs, h => by simp [dp] at h
  | 0, .dit m xs, h => by simp [dp] at h
  | 0, .ins m c xs, h => by simp [dp] at h
  | 0, .exc c xs, h => by simp [dp] at h
  | n + 1, .tup xs, h => by
    obtain ⟨h1, h2⟩ := dpL_plain n xs (by rw [dp] at h; exact h)
    exact ⟨by rw [toP, PyData.plain]; exact h1, by rw [toP, PyData.depth]; omega⟩
  | n + 1, .lst m xs, h => by
    obtain ⟨h1, h2⟩ := dpL_plain n xs (by rw [dp] at h; exact h)
    exact ⟨by rw [toP, PyData.plain]; exact h1, by rw [toP, PyData.depth]; omega⟩
  | n + 1, .dic m xs, h => by simp [dp] at h
  | n + 1, .dit m xs, h => by simp [dp] at h
  | n + 1, .ins m c xs, h => by simp [dp] at h
  | n + 1, .exc c xs, h => by simp [dp] at h
theorem dpL_plain : ∀ (n : Nat) (xs : List D), dpL n xs = true → PyData.plainAll (toPL xs) = true ∧ PyData.depthAll (toPL xs) ≤ n
  | n, [], _ => by simp [toPL, PyData.plainAll, PyData.depthAll]
  | n, d :: r, h => by
    rw [dpL, Bool.and_eq_true] at h
    obtain ⟨a1, a2⟩ := dp_plain n d h.1
    obtain ⟨b1, b2⟩ := dpL_plain n r h.2
    exact ⟨by rw [toPL, PyData.plainAll, a1, b1]; rfl, by rw [toPL, PyData.depthAll]; omega⟩
end
def shal (m : Fl) : Bool := m != .oo && m != .ll
section
variable {G : GC} {Z S : AS} {H : Hp} {d : D} {v : V} {A : AS} {xs : List D}
theorem Rep.lstV {m : Fl} (r : Rep G Z S H (.lst m xs) v A) : ∃ a vs, v = .ref a ∧ SqL G.K H a vs ∧ xs.length = vs.length ∧ (∀ (i : Nat) d w, xs[i]? = some d → vs[i]? = some w → ∃ B, Rep G Z S H d w B ∧ ∀ x, B x → A x) ∧
    (m ≠ .k → H a = some (.lst vs)) ∧ (shal m = true → ∀ (i : Nat) d w, xs[i]? = some d → vs[i]? = some w → RepF G Z H d w) := by
  have n0 : ∀ x, ¬ S0 x := fun x h => h
  cases r with
  | fz h hA =>
    cases h with
    | lsk h hl he => exact ⟨_, _, rfl, h.imp (fun z => z.2) id, hl, fun i d w e1 e2 => ⟨S0, .fz (he i d w e1 e2) n0, fun x q => q.elim⟩, fun q => absurd rfl q, fun _ => he⟩
    | lst z h hl he => exact ⟨_, _, rfl, .inl (.inl h), hl, fun i d w e1 e2 => ⟨S0, .fz (he i d w e1 e2) n0, fun x q => q.elim⟩, fun _ => h, fun _ => he⟩
  | lo h hl he hA => exact ⟨_, _, rfl, .inl (.inl h), hl, fun i d w e1 e2 => ⟨S0, .fz (he i d w e1 e2) n0, fun x q => q.elim⟩, fun _ => h, fun _ => he⟩
  | loo B h hl he hd hn ho hA => exact ⟨_, _, rfl, .inl (.inl h), hl, fun i d w e1 e2 => ⟨B i, he i d w e1 e2, fun x q => (hA x).mpr (.inr ⟨i, q⟩)⟩, fun _ => h, fun q => absurd q (by decide)⟩
  | ll s h hl he hA => exact ⟨_, _, rfl, .inl (.inl h), hl, fun i d w e1 e2 => ⟨S0, .fz (he i d w e1 e2) n0, fun x q => q.elim⟩, fun _ => h, fun _ => he⟩
  | lll s h hl he hA => exact ⟨_, _, rfl, .inl (.inl h), hl, fun i d w e1 e2 => ⟨S0, he i d w e1 e2, fun x q => q.elim⟩, fun _ => h, fun q => absurd q (by decide)⟩
theorem Rep.tupV (r : Rep G Z S H (.tup xs) v A) : ∃ a vs, v = .ref a ∧ SqT G.K H a vs ∧ xs.length = vs.length ∧ (∀ (i : Nat) d w, xs[i]? = some d → vs[i]? = some w → RepF G Z H d w) ∧ ∀ x, ¬ A x := by
  cases r with
  | fz h hA =>
    cases h with
    | tup h hl he => exact ⟨_, _, rfl, h.imp (fun z => z.2) id, hl, he, hA⟩
theorem Rep.intV {i : Int} (r : Rep G Z S H (.int i) v A) : v = .int i := by cases r with | fz h hA => cases h; rfl
theorem Rep.strV {i : Str} (r : Rep G Z S H (.str i) v A) : v = .str i := by cases r with | fz h hA => cases h; rfl
theorem Rep.blV {i : Bool} (r : Rep G Z S H (.bl i) v A) : v = .bl i := by cases r with | fz h hA => cases h; rfl
theorem Rep.nonV (r : Rep G Z S H .non v A) : v = .non := by cases r with | fz h hA => cases h; rfl
theorem readsAll_of {h : Heap} : ∀ {ds : List PyData} {us : List Value}, ds.length = us.length → (∀ (i : Nat) d u, ds[i]? = some d → us[i]? = some u → ∃ as, Reads h u d as) → ∃ as, ReadsAll h us ds as
  | [], [], _, _ => ⟨_, .nil⟩
  | d :: ds, u :: us, hl, hh => by
    obtain ⟨a1, r1⟩ := hh 0 d u rfl rfl
    obtain ⟨a2, r2⟩ := readsAll_of (ds := ds) (us := us) (by simpa using hl) fun i d u e1 e2 => hh (i + 1) d u (by simpa using e1) (by simpa using e2)
    exact ⟨_, .cons r1 r2⟩
  | [], _ :: _, hl, _ => by simp at hl
  | _ :: _, [], hl, _ => by simp at hl
theorem vals_at : ∀ {vs : List V} {us : List Value} {i : Nat} {u : Value}, Vals vs us → us[i]? = some u → ∃ v, vs[i]? = some v ∧ RelV v u
  | _, _, _, _, .nil, e => by simp at e
  | _, _, 0, _, .cons r _, e => by simp at e; subst e; exact ⟨_, rfl, r⟩
  | _, _, i + 1, u, .cons _ t, e => by
    obtain ⟨v, h1, h2⟩ := vals_at (i := i) (u := u) t (by simpa using e)
    exact ⟨v, by simpa using h1, h2⟩
/-- what a value bears is what the library reads off it -/
theorem Rep.reads {X : Cx} {pins : List (Addr × Obj)} {σ : St} {s : Shared} (hK : X.K = G.K) (I : Inv X pins σ H s) : ∀ (n : Nat) {d : D} {v : V} {u : Value} {A : AS}, dp n d = true → Rep G Z S H d v A → RelV v u → ∃ as, Reads s.heap u (toP d) as := by
  intro n
  induction n with
  | zero =>
    intro d v u A h r e
    cases d with
    | non => rw [r.nonV] at e; cases e; exact ⟨_, .none⟩
    | bl b => rw [r.blV] at e; cases e; exact ⟨_, .bool b⟩
    | int i => rw [r.intV] at e; obtain ⟨t, rfl⟩ := e; exact ⟨_, .int i t⟩
    | str x => rw [r.strV] at e; obtain ⟨t, rfl⟩ := e; exact ⟨_, .str x t⟩
    | _ => simp [dp] at h
  | succ n ih =>
    intro d v u A h r e
    cases d with
    | non => rw [r.nonV] at e; cases e; exact ⟨_, .none⟩
    | bl b => rw [r.blV] at e; cases e; exact ⟨_, .bool b⟩
    | int i => rw [r.intV] at e; obtain ⟨t, rfl⟩ := e; exact ⟨_, .int i t⟩
    | str x => rw [r.strV] at e; obtain ⟨t, rfl⟩ := e; exact ⟨_, .str x t⟩
    | tup xs =>
      rw [dp, dpL_all, List.all_eq_true] at h
      obtain ⟨a, vs, rfl, sq, hl, he, _⟩ := r.tupV
      cases e
      rw [← hK] at sq
      obtain ⟨its, rv, ⟨o, ho, hc, c, hd⟩, _⟩ := I.tuple sq
      obtain ⟨as, q⟩ := readsAll_of (h := s.heap) (ds := toPL xs) (us := its) (by rw [toPL_eq, List.length_map, hl, rv.length]) fun i d u e1 e2 => by
        rw [toPL_eq] at e1
        obtain ⟨x, ex, rfl⟩ := getMap e1
        obtain ⟨w, ew, rw'⟩ := vals_at rv e2
        exact ih (h x (List.mem_of_getElem? ex)) (.fz (S := S) (A := S0) (he i x w ex ew) fun _ z => z) rw'
      exact ⟨_, Reads.tuple ho hc hd q⟩
    | lst m xs =>
      rw [dp, dpL_all, List.all_eq_true] at h
      obtain ⟨a, vs, rfl, sq, hl, he, _⟩ := r.lstV
      cases e
      rw [← hK] at sq
      obtain ⟨its, rv, ⟨o, c, ho, hc, _, hd⟩, _⟩ := I.list sq
      obtain ⟨as, q⟩ := readsAll_of (h := s.heap) (ds := toPL xs) (us := its) (by rw [toPL_eq, List.length_map, hl, rv.length]) fun i d u e1 e2 => by
        rw [toPL_eq] at e1
        obtain ⟨x, ex, rfl⟩ := getMap e1
        obtain ⟨w, ew, rw'⟩ := vals_at rv e2
        obtain ⟨B, rB, _⟩ := he i x w ex ew
        exact ih (h x (List.mem_of_getElem? ex)) rB rw'
      exact ⟨_, Reads.list ho hc hd q⟩
    | _ => simp [dp] at h
end

/-! ### operations by values -/
/-- the arguments, as what stands behind them -/
def ArgV (G : GC) (Z S : AS) (H : Hp) (ds : List D) (vs : List V) : Prop := ds.length = vs.length ∧ ∀ (j : Nat) d v, ds[j]? = some d → vs[j]? = some v → ∃ A, Rep G Z S H d v A
/-- an answer: a scalar, a frozen thing, or a new one -/
def OkV (G : GC) (Z : AS) (H : Hp) (d : D) (Q : VK) : Prop := ∀ v H' Z' A, Same H H' → (∀ a, Z a → Z' a) → (∀ a, Z' a → Z a ∨ (H a = none ∧ ∃ o, H' a = some o)) → Rep G Z' S0 H' d v A → (∀ x, A x → H x = none ∧ ¬ Z' x) → Q v H'
def Snd (G : GC) (g : List D → Option D) (r : List V → Hp → VK → Prop) : Prop :=
  ∀ Z S H ds vs d Q, (∀ a, Z a → ∃ o, H a = some o) → ArgV G Z S H ds vs → g ds = some d → OkV G Z H d Q → r vs H Q
def r2L (r : R2) : List V → Hp → VK → Prop := fun vs H Q => ∃ x y, vs = [x, y] ∧ r x y H Q
def r1L (r : V → Hp → VK → Prop) : List V → Hp → VK → Prop := fun vs H Q => ∃ x, vs = [x] ∧ r x H Q
def rmL (r : V → List V → Hp → VK → Prop) : List V → Hp → VK → Prop := fun vs H Q => ∃ x xs, vs = x :: xs ∧ r x xs H Q
def evOp (g : List D → Option D) (fa : DS → Option EA) : DS → Option ER := fun δ => match fa δ with
  | none => none
  | some (.ex x, δ') => some (.ex x, δ')
  | some (.ok ds, δ') => match g ds with
    | none => none
    | some d => some (.ok d, δ')
section
variable {G : GC} {W : WX}
theorem ArgR.argV {Z S : AS} {H : Hp} {FS : Nat → AS} {ks : List Bool} {ds : List D} {vs : List V} {B : Nat → AS} (a : ArgR G Z S H FS ks ds vs B) : ArgV G Z S H ds vs := by
  refine ⟨a.l1, fun j d v e1 e2 => ?_⟩
  have hj : j < ds.length := (List.getElem?_eq_some_iff.mp e1).1
  have hk : j < ks.length := by rw [a.l2]; exact hj
  have q := a.rep j d v ks[j] e1 e2 (by simp [hk])
  split at q
  · exact ⟨_, q.1⟩
  · exact ⟨_, q.1.s0⟩
theorem SR.grow {Z Z' : AS} {S : Nat → AS} {H H' : Hp} {δ : DS} {σ : St} {FS : Nat → AS} (r : SR G Z S H δ σ FS) (sm : Same H H') (zi : ∀ a, Z a → Z' a) (zn : ∀ a, Z' a → Z a ∨ (H a = none ∧ ∃ o, H' a = some o)) : SR G Z' S H' δ σ FS where
  len := r.len
  slot := fun i d e => let ⟨v, e1, rp⟩ := r.slot i d e; ⟨v, e1, rp.mono zi (fun _ z => z) fun a _ o e => sm a o e⟩
  empt := r.empt
  disj := r.disj
  zs := fun a z => by
    rcases zn a z with z | ⟨_, o, z⟩
    · obtain ⟨o, e⟩ := r.zs a z; exact ⟨o, sm a o e⟩
    · exact ⟨o, z⟩
  ss := fun a z => let ⟨o, e⟩ := r.ss a z; ⟨o, sm a o e⟩
  nz := fun a z => by
    refine ⟨fun q => ?_, (r.nz a z).2⟩
    rcases zn a q with q | ⟨q, _⟩
    · exact (r.nz a z).1 q
    · obtain ⟨o, e⟩ := r.own a z
      rw [q] at e; cases e
theorem rd_op {ks : List Bool} {qt : Bool} {g : List D → Option D} {r : List V → Hp → VK → Prop} {fa : DS → Option EA} {tr : TA} (hs : Snd G g r) (ha : ∀ σ H Q, rdA G W ks qt fa σ H Q → tr σ H Q) :
    ∀ σ H Q, rdE G W false qt (evOp g fa) σ H Q → tr σ H fun vs H1 => r vs H1 Q := by
  rintro σ H Q ⟨δ, Z, S, FS, sr, ⟨w, hf⟩, ok, ex⟩
  unfold evOp at hf ok ex
  refine ha σ H _ ⟨δ, Z, S, FS, sr, ?_, fun ds δ' h vs H' Z' FS' B p => ?_, fun x δ' h => ?_⟩
  · cases q : fa δ with
    | none => rw [q] at hf; cases hf
    | some w => exact ⟨w, rfl⟩
  · rw [h] at hf ok
    simp only at hf ok
    cases e : g ds with
    | none => rw [e] at hf; cases hf
    | some d =>
      rw [e] at ok
      refine hs Z' (Own S) H' ds vs d Q p.sr.zs p.ar.argV e fun v H2 Z2 A sm zi zn rp fr => ?_
      refine ok d δ' rfl v H2 Z2 FS' A ⟨p.sr.grow sm zi zn, ?_, ?_, fun q => ?_⟩
      · exact (p.st.sub (P2 := Own FS') fun a z => .inl z).trans ⟨fun a o e _ => sm a o e, fun a o e => ⟨o, sm a o e⟩, zi, fun a z => (zn a z).imp id fun q => .inr q.1, fun a z => z.imp id fun q => (fr a q).1⟩
      · rw [if_neg Bool.false_ne_true]
        refine ⟨rp, fun x hx => ?_⟩
        have nx := (fr x hx).1
        refine ⟨(fr x hx).2, fun z => ?_, fun z => ?_⟩
        · obtain ⟨o, e⟩ := p.sr.ss x z; rw [nx] at e; cases e
        · obtain ⟨o, e⟩ := p.sr.own x z; rw [nx] at e; cases e
      · obtain ⟨b, c⟩ := p.qq q
        exact ⟨b, c.trans sm⟩
  · rw [h] at ex
    exact ex x δ' rfl

/-! answers -/
variable {Z S : AS} {H : Hp} {d : D} {Q : VK}
theorem OkV.old {v : V} (h : OkV G Z H d Q) (r : RepF G Z H d v) : Q v H := h _ H Z S0 (fun _ _ e => e) (fun _ z => z) (fun _ z => .inl z) (.fz r fun _ z => z) fun _ z => z.elim
theorem OkV.int {i : Int} (h : OkV G Z H (.int i) Q) : Q (.int i) H := h.old (.int i)
theorem OkV.bl {i : Bool} (h : OkV G Z H (.bl i) Q) : Q (.bl i) H := h.old (.bl i)
theorem OkV.str {i : Str} (h : OkV G Z H (.str i) Q) : Q (.str i) H := h.old (.str i)
theorem OkV.non (h : OkV G Z H .non Q) : Q .non H := h.old .non
theorem same_upd {p : Addr} {o : HO} (n : H p = none) : Same H (upd H p o) := fun a u e => by rw [upd_ne (ne_of_none e n)]; exact e
/-- a new list -/
theorem OkV.lst (zs : ∀ a, Z a → ∃ o, H a = some o) {xs : List D} {vs : List V} (h : OkV G Z H (.lst .o xs) Q) (hl : xs.length = vs.length) (he : ∀ (i : Nat) d w, xs[i]? = some d → vs[i]? = some w → RepF G Z H d w) {p : Addr} (n : H p = none) : Q (.ref p) (upd H p (.lst vs)) :=
  h _ _ Z (fun x => x = p) (same_upd n) (fun _ z => z) (fun _ z => .inl z) (.lo upd_same hl (fun i d w e1 e2 => (he i d w e1 e2).same (same_upd n)) fun _ => Iff.rfl) fun x e => by
    subst e
    exact ⟨n, fun z => by obtain ⟨o, q⟩ := zs x z; rw [n] at q; cases q⟩
/-- a new tuple: frozen at once -/
theorem OkV.tup {xs : List D} {vs : List V} (h : OkV G Z H (.tup xs) Q) (hl : xs.length = vs.length) (he : ∀ (i : Nat) d w, xs[i]? = some d → vs[i]? = some w → RepF G Z H d w) {p : Addr} (n : H p = none) : Q (.ref p) (upd H p (.tup vs)) :=
  h _ _ (fun x => Z x ∨ x = p) S0 (same_upd n) (fun _ z => .inl z) (fun a z => z.imp id fun q => by subst q; exact ⟨n, _, upd_same⟩)
    (.fz (.tup (.inl ⟨.inr rfl, .inl upd_same⟩) hl fun i d w e1 e2 => (he i d w e1 e2).mono (fun _ z => .inl z) fun a _ o e => same_upd n a o e) fun _ z => z) fun _ z => z.elim
theorem argv0 {ds : List D} {vs : List V} (a : ArgV G Z S H ds vs) (e : ds = []) : vs = [] := by
  subst e
  cases vs with
  | nil => rfl
  | cons _ _ => exact absurd a.1 (by simp)
theorem argv1 {a1 : D} {vs : List V} (a : ArgV G Z S H [a1] vs) : ∃ x A, vs = [x] ∧ Rep G Z S H a1 x A := by
  obtain ⟨hl, h⟩ := a
  match vs, hl with
  | [x], _ =>
    obtain ⟨A, r⟩ := h 0 a1 x rfl rfl
    exact ⟨x, A, rfl, r⟩
theorem argv2 {a1 a2 : D} {vs : List V} (a : ArgV G Z S H [a1, a2] vs) : ∃ x y A B, vs = [x, y] ∧ Rep G Z S H a1 x A ∧ Rep G Z S H a2 y B := by
  obtain ⟨hl, h⟩ := a
  match vs, hl with
  | [x, y], _ =>
    obtain ⟨A, r⟩ := h 0 a1 x rfl rfl
    obtain ⟨B, r'⟩ := h 1 a2 y rfl rfl
    exact ⟨x, y, A, B, rfl, r, r'⟩
theorem argv3 {a1 a2 a3 : D} {vs : List V} (a : ArgV G Z S H [a1, a2, a3] vs) : ∃ x y z A B C, vs = [x, y, z] ∧ Rep G Z S H a1 x A ∧ Rep G Z S H a2 y B ∧ Rep G Z S H a3 z C := by
  obtain ⟨hl, h⟩ := a
  match vs, hl with
  | [x, y, z], _ =>
    obtain ⟨A, r⟩ := h 0 a1 x rfl rfl
    obtain ⟨B, r'⟩ := h 1 a2 y rfl rfl
    obtain ⟨C, r''⟩ := h 2 a3 z rfl rfl
    exact ⟨x, y, z, A, B, C, rfl, r, r', r''⟩
end
end PD
/-! P, part 3: the operations. -/
namespace PD
open PySem L2 PyProof.Rows

/-- what is known where a value-level operation runs -/
structure XO (G : GC) (X : Cx) : Prop where
  K : X.K = G.K
  hu : X.A.units + 200 < cLine
  hd : X.A.handled = none
  calm : X.calm = true

def rOf (G : GC) (g : List D → Option D) : List V → Hp → VK → Prop := fun vs H Q => ∃ Z S ds d, (∀ a, Z a → ∃ o, H a = some o) ∧ ArgV G Z S H ds vs ∧ g ds = some d ∧ OkV G Z H d Q
theorem snd_of (G : GC) (g : List D → Option D) : Snd G g (rOf G g) := fun Z S H ds vs d Q zs a e h => ⟨Z, S, ds, d, zs, a, e, h⟩
def BinOk (G : GC) (X : Cx) (f : Value → Value → Sem Value) (g : List D → Option D) : Prop := OpR X f fun x y H Q => rOf G g [x, y] H Q
def UnOk (G : GC) (X : Cx) (f : Value → Sem Value) (g : List D → Option D) : Prop := UnR X f fun x H Q => rOf G g [x] H Q
def CallOk (G : GC) (X : Cx) (f : Value) (g : List D → Option D) : Prop := CallR X f fun xs H Q => rOf G g xs H Q
def MtOk (G : GC) (X : Cx) (id : String) (g : List D → Option D) : Prop := MtR X id fun x xs H Q => rOf G g (x :: xs) H Q
def IxOk (G : GC) (X : Cx) (g : List D → Option D) : Prop := IxR X fun x y H Q => rOf G g [x, y] H Q
theorem BinOk.of {G : GC} {X : Cx} {f : Value → Value → Sem Value} {g : List D → Option D} {r : R2} (h : OpR X f r) (m : ∀ x y H Q, rOf G g [x, y] H Q → r x y H Q) : BinOk G X f g := fun pins s σ H x y v u Q I rx ry q => h pins s σ H x y v u Q I rx ry (m x y H Q q)
theorem CallOk.of {G : GC} {X : Cx} {f : Value} {g : List D → Option D} {r : List V → Hp → VK → Prop} (h : CallR X f r) (m : ∀ xs H Q, rOf G g xs H Q → r xs H Q) : CallOk G X f g := fun pins s σ H xs us Q I rx q => h pins s σ H xs us Q I rx (m xs H Q q)
theorem MtOk.of {G : GC} {X : Cx} {f : String} {g : List D → Option D} {r : V → List V → Hp → VK → Prop} (h : MtR X f r) (m : ∀ x xs H Q, rOf G g (x :: xs) H Q → r x xs H Q) : MtOk G X f g := fun pins s σ H x xs v us Q I rx r' q => h pins s σ H x xs v us Q I rx r' (m x xs H Q q)
theorem IxOk.of {G : GC} {X : Cx} {g : List D → Option D} {r : R2} (h : IxR X r) (m : ∀ x y H Q, rOf G g [x, y] H Q → r x y H Q) : IxOk G X g := fun a b pins s σ H x y v u Q I rx ry q e => h a b pins s σ H x y v u Q I rx ry (m x y H Q q) e
theorem UnOk.of {G : GC} {X : Cx} {f : Value → Sem Value} {g : List D → Option D} {r : V → Hp → VK → Prop} (h : UnR X f r) (m : ∀ x H Q, rOf G g [x] H Q → r x H Q) : UnOk G X f g := fun pins s σ H x v Q I rx q => h pins s σ H x v Q I rx (m x H Q q)

/-! ### numbers -/
def mulOk (i j : Int) : Bool := (decide (-(2 ^ 64) < i) && decide (i < 2 ^ 64)) || (decide (-(2 ^ 64) < j) && decide (j < 2 ^ 64))
def gSub : List D → Option D
  | [.int i, .int j] => some (.int (i - j))
  | _ => none
def gMul : List D → Option D
  | [.int i, .int j] => if mulOk i j then some (.int (i * j)) else none
  | _ => none
def gDiv : List D → Option D
  | [.int i, .int j] => if 0 < j ∧ j < 1073741824 then some (.int (i / j)) else none
  | _ => none
def gMod : List D → Option D
  | [.int i, .int j] => if 0 < j then some (.int (i % j)) else none
  | _ => none
def gPow : List D → Option D
  | [.int i, .int j] => if 0 ≤ j ∧ j ≤ 1000000 ∧ i.natAbs < 2 ^ 64 then some (.int (i ^ j.toNat)) else none
  | _ => none
def gNeg : List D → Option D
  | [.int i] => some (.int (-i))
  | _ => none
/-- + of numbers, texts, lists -/
def gAdd : List D → Option D
  | [.int i, .int j] => some (.int (i + j))
  | [.str a, .str b] => if a.length + b.length ≤ sizeLine then some (.str (a ++ b)) else none
  | [.lst m xs, .lst n ys] => if shal m && shal n && m != .k && n != .k && decide (xs.length + ys.length ≤ sizeLine) then some (.lst .o (xs ++ ys)) else none
  | [.tup xs, .tup ys] => if !xs.isEmpty && decide (xs.length + ys.length ≤ sizeLine) then some (.tup (xs ++ ys)) else none
  | _ => none
section
variable {G : GC} {X : Cx}
theorem ok_sub (h : XO G X) : BinOk G X (binaryOp .Sub) gSub := .of op_sub fun x y H Q ⟨Z, S, ds, d, zs, a, e, k⟩ => by
  unfold gSub at e
  split at e
  · cases e
    obtain ⟨x', y', A, B, ev, r1, r2⟩ := argv2 a
    cases ev
    rw [r1.intV, r2.intV]
    exact ⟨_, _, rfl, rfl, k.int⟩
  · cases e
theorem ok_mul (h : XO G X) : BinOk G X (binaryOp .Mult) gMul := .of op_mul fun x y H Q ⟨Z, S, ds, d, zs, a, e, k⟩ => by
  unfold gMul at e
  split at e
  · rename_i i j
    split at e
    · rename_i hm
      cases e
      obtain ⟨x', y', A, B, ev, r1, r2⟩ := argv2 a
      cases ev
      rw [r1.intV, r2.intV]
      refine ⟨_, _, rfl, rfl, ?_, k.int⟩
      unfold mulOk at hm
      simp only [Bool.or_eq_true, Bool.and_eq_true, decide_eq_true_eq] at hm
      exact hm
    · cases e
  · cases e
theorem ok_div (h : XO G X) : BinOk G X (binaryOp .FloorDiv) gDiv := .of op_fdiv fun x y H Q ⟨Z, S, ds, d, zs, a, e, k⟩ => by
  unfold gDiv at e
  split at e
  · split at e
    · rename_i hm
      cases e
      obtain ⟨x', y', A, B, ev, r1, r2⟩ := argv2 a
      cases ev
      rw [r1.intV, r2.intV]
      exact ⟨_, _, rfl, rfl, hm, k.int⟩
    · cases e
  · cases e
theorem ok_mod (h : XO G X) : BinOk G X (binaryOp .Mod) gMod := .of op_mod fun x y H Q ⟨Z, S, ds, d, zs, a, e, k⟩ => by
  unfold gMod at e
  split at e
  · split at e
    · rename_i hm
      cases e
      obtain ⟨x', y', A, B, ev, r1, r2⟩ := argv2 a
      cases ev
      rw [r1.intV, r2.intV]
      exact ⟨_, _, rfl, rfl, hm, k.int⟩
    · cases e
  · cases e
theorem ok_pow (h : XO G X) : BinOk G X (binaryOp .Pow) gPow := .of op_pow fun x y H Q ⟨Z, S, ds, d, zs, a, e, k⟩ => by
  unfold gPow at e
  split at e
  · split at e
    · rename_i hm
      cases e
      obtain ⟨x', y', A, B, ev, r1, r2⟩ := argv2 a
      cases ev
      rw [r1.intV, r2.intV]
      exact ⟨_, _, rfl, rfl, hm, k.int⟩
    · cases e
  · cases e
theorem ok_neg (h : XO G X) : UnOk G X (unaryOp .USub) gNeg := .of un_neg fun x H Q ⟨Z, S, ds, d, zs, a, e, k⟩ => by
  unfold gNeg at e
  split at e
  · cases e
    obtain ⟨x', A, ev, r1⟩ := argv1 a
    cases ev
    rw [r1.intV]
    exact ⟨_, rfl, k.int⟩
  · cases e
theorem app_at {α β : Type} {R : α → β → Prop} {xs ys : List α} {vs ws : List β} (l1 : xs.length = vs.length) (h1 : ∀ (i : Nat) d w, xs[i]? = some d → vs[i]? = some w → R d w) (h2 : ∀ (i : Nat) d w, ys[i]? = some d → ws[i]? = some w → R d w) :
    ∀ (i : Nat) d w, (xs ++ ys)[i]? = some d → (vs ++ ws)[i]? = some w → R d w := fun i d w e1 e2 => by
  by_cases h : i < xs.length
  · rw [List.getElem?_append_left h] at e1
    rw [List.getElem?_append_left (l1 ▸ h)] at e2
    exact h1 i d w e1 e2
  · rw [List.getElem?_append_right (by omega)] at e1
    rw [List.getElem?_append_right (by omega)] at e2
    rw [← l1] at e2
    exact h2 _ d w e1 e2
theorem ok_add (h : XO G X) : BinOk G X (binaryOp .Add) gAdd := .of (op_add.or (op_add_str.or (op_cat.or op_catT))) fun x y H Q ⟨Z, S, ds, d, zs, a, e, k⟩ => by
  unfold gAdd at e
  split at e
  · cases e
    obtain ⟨x', y', A, B, ev, r1, r2⟩ := argv2 a
    cases ev
    rw [r1.intV, r2.intV]
    exact .inl ⟨_, _, rfl, rfl, k.int⟩
  · split at e
    · rename_i hl
      cases e
      obtain ⟨x', y', A, B, ev, r1, r2⟩ := argv2 a
      cases ev
      rw [r1.strV, r2.strV]
      exact .inr (.inl ⟨_, _, rfl, rfl, hl, k.str⟩)
    · cases e
  · split at e
    · rename_i hc
      cases e
      simp only [Bool.and_eq_true, decide_eq_true_eq, bne_iff_ne] at hc
      obtain ⟨⟨⟨⟨h1, h2⟩, h3⟩, h4⟩, h5⟩ := hc
      obtain ⟨x', y', A, B, ev, r1, r2⟩ := argv2 a
      cases ev
      obtain ⟨p, vs, rfl, _, l1, _, e1, f1⟩ := r1.lstV
      obtain ⟨q, ws, rfl, _, l2, _, e2, f2⟩ := r2.lstV
      exact .inr (.inr (.inl ⟨_, _, _, _, rfl, rfl, e1 h3, e2 h4, by omega, fun p hp => k.lst zs (by simp [l1, l2]) (app_at l1 (f1 h1) (f2 h2)) hp⟩))
    · cases e
  · rename_i xs ys
    split at e
    · rename_i hc
      cases e
      simp only [Bool.and_eq_true, decide_eq_true_eq] at hc
      obtain ⟨h1, h5⟩ := hc
      obtain ⟨x', y', A, B, ev, r1, r2⟩ := argv2 a
      cases ev
      obtain ⟨p, vs, rfl, s1, l1, f1, _⟩ := r1.tupV
      obtain ⟨q, ws, rfl, s2, l2, f2, _⟩ := r2.tupV
      refine .inr (.inr (.inr ?_))
      rw [← h.K] at s1 s2
      refine ⟨_, _, _, _, rfl, rfl, s1, s2, fun z => ?_, by omega, fun z => ?_, fun z p hp => k.tup (by simp [l1, l2]) (app_at l1 f1 f2) hp⟩
      · subst z
        have : xs = [] := List.eq_nil_of_length_eq_zero l1
        subst this
        simp at h1
      · subst z
        have : ys = [] := List.eq_nil_of_length_eq_zero l2
        subst this
        rw [List.append_nil] at k
        rw [h.K] at s1
        cases r1 with
        | fz r _ => exact k.old r
    · cases e
  · cases e
end
end PD
/-! P, part 4: comparisons, items, slices, built-in functions. -/
namespace PD
open PySem L2 PyProof.Rows

def eqD (a b : D) : Bool := PyData.eqv (toP a) (toP b)
def gEq : List D → Option D
  | [a, b] => if dp 60 a && dp 60 b then some (.bl (eqD a b)) else none
  | _ => none
def gNe : List D → Option D
  | [a, b] => if dp 60 a && dp 60 b then some (.bl (!eqD a b)) else none
  | _ => none
def notNone : D → Bool
  | .non => false
  | _ => true
def cmpOk (a b : D) : Bool := dp 60 a && dp 60 b && W.alike (toP a) (toP b) && notNone a
def gLt : List D → Option D
  | [.int i, .int j] => some (.bl (decide (i < j)))
  | [a, b] => if cmpOk a b then some (.bl (W.dataLt (toP a) (toP b))) else none
  | _ => none
def gGt : List D → Option D
  | [.int i, .int j] => some (.bl (decide (j < i)))
  | [a, b] => if cmpOk a b then some (.bl (W.dataLt (toP b) (toP a))) else none
  | _ => none
def gLe : List D → Option D
  | [.int i, .int j] => some (.bl (decide (i ≤ j)))
  | [a, b] => if cmpOk a b then some (.bl (!W.dataLt (toP b) (toP a))) else none
  | _ => none
def gGe : List D → Option D
  | [.int i, .int j] => some (.bl (decide (j ≤ i)))
  | [a, b] => if cmpOk a b then some (.bl (!W.dataLt (toP a) (toP b))) else none
  | _ => none
def isNon : D → Bool
  | .non => true
  | _ => false
def gIs : List D → Option D
  | [a, .non] => some (.bl (isNon a))
  | _ => none
def gIsNot : List D → Option D
  | [a, .non] => some (.bl (!isNon a))
  | _ => none
/-- one text in another -/
def inStr (x z : Str) : Bool := match x.cps.toList with
  | [c] => decide (c ∈ z.cps.toList)
  | _ => !(Builtin.Str.occurrences z x 0 z.length 1).isEmpty
def gIn : List D → Option D
  | [.str x, .str z] => some (.bl (inStr x z))
  | [x, .lst _ ys] => if dp 60 x && dpL 60 ys then some (.bl (ys.any fun y => eqD y x)) else none
  | [x, .tup ys] => if dp 60 x && dpL 60 ys then some (.bl (ys.any fun y => eqD y x)) else none
  | _ => none
def gNotIn : List D → Option D
  | [.str x, .str z] => some (.bl (!inStr x z))
  | [x, .lst _ ys] => if dp 60 x && dpL 60 ys then some (.bl (!ys.any fun y => eqD y x)) else none
  | [x, .tup ys] => if dp 60 x && dpL 60 ys then some (.bl (!ys.any fun y => eqD y x)) else none
  | _ => none
section
variable {G : GC} {X : Cx}
theorem fin_b {pins : List (Addr × Obj)} {σ : L2.St} {H : Hp} {s : Shared} {Q : VK} {k : Bool} (I : Inv X pins σ H s) (q : Q (.bl k) H) : EP X pins σ Q (.bool k) s := ⟨.bl k, H, I, rfl, q⟩
theorem ok_eq (h : XO G X) : BinOk G X (compareOp .Eq) gEq := by
  intro pins s σ H x y v u Q I rx ry ⟨Z, S, ds, d, zs, a, e, k⟩
  unfold gEq at e
  split at e
  · split at e
    · rename_i a1 a2 hc
      rw [Bool.and_eq_true] at hc
      cases e
      obtain ⟨x', y', A, B, ev, r1, r2⟩ := argv2 a
      cases ev
      obtain ⟨as, q1⟩ := r1.reads h.K I 60 hc.1 rx
      obtain ⟨bs, q2⟩ := r2.reads h.K I 60 hc.2 ry
      obtain ⟨p1, d1⟩ := dp_plain 60 a1 hc.1
      obtain ⟨p2, d2⟩ := dp_plain 60 a2 hc.2
      exact SeqAt.eq_plain q1 q2 p1 p2 (by have := h.hu; omega) (fin_b I k.bl)
    · cases e
  · cases e
theorem ok_ne (h : XO G X) : BinOk G X (compareOp .NotEq) gNe := by
  intro pins s σ H x y v u Q I rx ry ⟨Z, S, ds, d, zs, a, e, k⟩
  unfold gNe at e
  split at e
  · split at e
    · rename_i a1 a2 hc
      rw [Bool.and_eq_true] at hc
      cases e
      obtain ⟨x', y', A, B, ev, r1, r2⟩ := argv2 a
      cases ev
      obtain ⟨as, q1⟩ := r1.reads h.K I 60 hc.1 rx
      obtain ⟨bs, q2⟩ := r2.reads h.K I 60 hc.2 ry
      obtain ⟨p1, d1⟩ := dp_plain 60 a1 hc.1
      obtain ⟨p2, d2⟩ := dp_plain 60 a2 hc.2
      exact SeqAt.ne_plain q1 q2 p1 p2 (by have := h.hu; omega) (fin_b I k.bl)
    · cases e
  · cases e
theorem cmp_get {pins : List (Addr × Obj)} {σ : L2.St} {H : Hp} {s : Shared} {Z S : AS} {a1 a2 : D} {vs : List V} {x y : V} {v u : Value} (h : XO G X) (I : Inv X pins σ H s) (rx : RelV x v) (ry : RelV y u) (a : ArgV G Z S H [a1, a2] [x, y]) (hc : cmpOk a1 a2 = true) :
    ∃ as bs, Reads s.heap v (toP a1) as ∧ Reads s.heap u (toP a2) bs ∧ W.alike (toP a1) (toP a2) = true ∧ toP a1 ≠ .none ∧ X.A.units + min (toP a1).depth (toP a2).depth < cLine := by
  unfold cmpOk at hc
  simp only [Bool.and_eq_true] at hc
  obtain ⟨⟨⟨h1, h2⟩, h3⟩, h4⟩ := hc
  obtain ⟨x', y', A, B, ev, r1, r2⟩ := argv2 a
  cases ev
  obtain ⟨as, q1⟩ := r1.reads h.K I 60 h1 rx
  obtain ⟨bs, q2⟩ := r2.reads h.K I 60 h2 ry
  obtain ⟨p1, d1⟩ := dp_plain 60 a1 h1
  refine ⟨as, bs, q1, q2, h3, fun z => ?_, by have := h.hu; omega⟩
  cases a1 <;> first | (simp [notNone] at h4; done) | (simp [toP] at z; done) | (simp [dp] at h1; done)
theorem ok_lt (h : XO G X) : BinOk G X (compareOp .Lt) gLt := by
  intro pins s σ H x y v u Q I rx ry ⟨Z, S, ds, d, zs, a, e, k⟩
  unfold gLt at e
  split at e
  · cases e
    obtain ⟨x', y', A, B, ev, r1, r2⟩ := argv2 a
    cases ev
    rw [r1.intV] at rx; rw [r2.intV] at ry
    exact op_lt pins s σ H _ _ v u Q I rx ry ⟨_, _, rfl, rfl, k.bl⟩
  · split at e
    · rename_i hc
      cases e
      obtain ⟨as, bs, q1, q2, q3, q4, q5⟩ := cmp_get (vs := []) h I rx ry a hc
      exact W.lt_data q1 q2 q3 q4 q5 (fin_b I k.bl)
    · cases e
  · cases e
theorem ok_gt (h : XO G X) : BinOk G X (compareOp .Gt) gGt := by
  intro pins s σ H x y v u Q I rx ry ⟨Z, S, ds, d, zs, a, e, k⟩
  unfold gGt at e
  split at e
  · cases e
    obtain ⟨x', y', A, B, ev, r1, r2⟩ := argv2 a
    cases ev
    rw [r1.intV] at rx; rw [r2.intV] at ry
    exact op_gt pins s σ H _ _ v u Q I rx ry ⟨_, _, rfl, rfl, k.bl⟩
  · split at e
    · rename_i hc
      cases e
      obtain ⟨as, bs, q1, q2, q3, q4, q5⟩ := cmp_get (vs := []) h I rx ry a hc
      exact W.gt_data q1 q2 q3 q4 q5 (fin_b I k.bl)
    · cases e
  · cases e
theorem ok_le (h : XO G X) : BinOk G X (compareOp .LtE) gLe := by
  intro pins s σ H x y v u Q I rx ry ⟨Z, S, ds, d, zs, a, e, k⟩
  unfold gLe at e
  split at e
  · cases e
    obtain ⟨x', y', A, B, ev, r1, r2⟩ := argv2 a
    cases ev
    rw [r1.intV] at rx; rw [r2.intV] at ry
    exact op_le pins s σ H _ _ v u Q I rx ry ⟨_, _, rfl, rfl, k.bl⟩
  · split at e
    · rename_i hc
      cases e
      obtain ⟨as, bs, q1, q2, q3, q4, q5⟩ := cmp_get (vs := []) h I rx ry a hc
      exact W.le_data q1 q2 q3 q4 q5 (fin_b I k.bl)
    · cases e
  · cases e
theorem ok_ge (h : XO G X) : BinOk G X (compareOp .GtE) gGe := by
  intro pins s σ H x y v u Q I rx ry ⟨Z, S, ds, d, zs, a, e, k⟩
  unfold gGe at e
  split at e
  · cases e
    obtain ⟨x', y', A, B, ev, r1, r2⟩ := argv2 a
    cases ev
    rw [r1.intV] at rx; rw [r2.intV] at ry
    exact op_ge pins s σ H _ _ v u Q I rx ry ⟨_, _, rfl, rfl, k.bl⟩
  · split at e
    · rename_i hc
      cases e
      obtain ⟨as, bs, q1, q2, q3, q4, q5⟩ := cmp_get (vs := []) h I rx ry a hc
      exact W.ge_data q1 q2 q3 q4 q5 (fin_b I k.bl)
    · cases e
  · cases e
theorem isNon_v {Z S : AS} {H : Hp} {d : D} {v : V} {A : AS} (r : Rep G Z S H d v A) : decide (v = .non) = isNon d := by
  cases r with
  | fz h hA => cases h <;> simp [isNon]
  | _ => simp [isNon]
theorem ok_is (h : XO G X) : BinOk G X (compareOp .Is) gIs := .of op_isN fun x y H Q ⟨Z, S, ds, d, zs, a, e, k⟩ => by
  unfold gIs at e
  split at e
  · cases e
    obtain ⟨x', y', A, B, ev, r1, r2⟩ := argv2 a
    cases ev
    refine ⟨r2.nonV, ?_⟩
    rw [isNon_v r1]; exact k.bl
  · cases e
theorem ok_isNot (h : XO G X) : BinOk G X (compareOp .IsNot) gIsNot := .of op_notN fun x y H Q ⟨Z, S, ds, d, zs, a, e, k⟩ => by
  unfold gIsNot at e
  split at e
  · cases e
    obtain ⟨x', y', A, B, ev, r1, r2⟩ := argv2 a
    cases ev
    refine ⟨r2.nonV, ?_⟩
    rw [isNon_v r1]; exact k.bl
  · cases e
theorem any_map (ys : List D) (x : D) : (toPL ys).any (fun y => PyData.eqv y (toP x)) = ys.any fun y => eqD y x := by
  rw [toPL_eq, List.any_map]; rfl
theorem str1 {x : Str} {c : Nat} (h : x.cps.toList = [c]) : x = ⟨#[c]⟩ := by
  obtain ⟨a⟩ := x
  have : a = #[c] := Array.toList_inj.mp (by simpa using h)
  rw [this]
theorem ok_in (h : XO G X) : BinOk G X (compareOp .In) gIn := by
  intro pins s σ H x y v u Q I rx ry ⟨Z, S, ds, d, zs, a, e, k⟩
  unfold gIn at e
  split at e
  · rename_i x' z'
    cases e
    obtain ⟨_, _, A, B, ev, r1, r2⟩ := argv2 a
    cases ev
    rw [r1.strV] at rx; rw [r2.strV] at ry
    have k' := k.bl
    unfold inStr at k'
    split at k'
    · rename_i c hc
      exact op_in_sign pins s σ H _ _ v u Q I rx ry ⟨c, z', by rw [str1 hc], rfl, k'⟩
    · exact op_in_str pins s σ H _ _ v u Q I rx ry ⟨x', z', rfl, rfl, k'⟩
  · split at e
    · rename_i x' m ys hc
      rw [Bool.and_eq_true] at hc
      cases e
      obtain ⟨_, _, A, B, ev, r1, r2⟩ := argv2 a
      cases ev
      obtain ⟨as, q1⟩ := r1.reads h.K I 60 hc.1 rx
      obtain ⟨bs, q2⟩ := r2.reads h.K I 61 (by rw [dp]; exact hc.2) ry
      obtain ⟨p1, d1⟩ := dp_plain 60 x' hc.1
      obtain ⟨p2, d2⟩ := dpL_plain 60 ys hc.2
      have k' := k.bl
      rw [← any_map] at k'
      exact SeqAt.in_list_data q2 q1 p2 p1 (by have := h.hu; omega) (fin_b I k')
    · cases e
  · split at e
    · rename_i x' ys hc
      rw [Bool.and_eq_true] at hc
      cases e
      obtain ⟨_, _, A, B, ev, r1, r2⟩ := argv2 a
      cases ev
      obtain ⟨as, q1⟩ := r1.reads h.K I 60 hc.1 rx
      obtain ⟨bs, q2⟩ := r2.reads h.K I 61 (by rw [dp]; exact hc.2) ry
      obtain ⟨p1, d1⟩ := dp_plain 60 x' hc.1
      obtain ⟨p2, d2⟩ := dpL_plain 60 ys hc.2
      have k' := k.bl
      rw [← any_map] at k'
      exact SeqAt.in_tuple_data q2 q1 p2 p1 (by have := h.hu; omega) (fin_b I k')
    · cases e
  · cases e
theorem ok_notIn (h : XO G X) : BinOk G X (compareOp .NotIn) gNotIn := by
  intro pins s σ H x y v u Q I rx ry ⟨Z, S, ds, d, zs, a, e, k⟩
  unfold gNotIn at e
  split at e
  · rename_i x' z'
    cases e
    obtain ⟨_, _, A, B, ev, r1, r2⟩ := argv2 a
    cases ev
    rw [r1.strV] at rx; rw [r2.strV] at ry
    have k' := k.bl
    unfold inStr at k'
    split at k'
    · rename_i c hc
      exact op_notIn_sign pins s σ H _ _ v u Q I rx ry ⟨c, z', by rw [str1 hc], rfl, k'⟩
    · exact op_notin_str pins s σ H _ _ v u Q I rx ry ⟨x', z', rfl, rfl, k'⟩
  · split at e
    · rename_i x' m ys hc
      rw [Bool.and_eq_true] at hc
      cases e
      obtain ⟨_, _, A, B, ev, r1, r2⟩ := argv2 a
      cases ev
      obtain ⟨as, q1⟩ := r1.reads h.K I 60 hc.1 rx
      obtain ⟨bs, q2⟩ := r2.reads h.K I 61 (by rw [dp]; exact hc.2) ry
      obtain ⟨p1, d1⟩ := dp_plain 60 x' hc.1
      obtain ⟨p2, d2⟩ := dpL_plain 60 ys hc.2
      have k' := k.bl
      rw [← any_map] at k'
      exact SeqAt.notIn_list_data q2 q1 p2 p1 (by have := h.hu; omega) (fin_b I k')
    · cases e
  · split at e
    · rename_i x' ys hc
      rw [Bool.and_eq_true] at hc
      cases e
      obtain ⟨_, _, A, B, ev, r1, r2⟩ := argv2 a
      cases ev
      obtain ⟨as, q1⟩ := r1.reads h.K I 60 hc.1 rx
      obtain ⟨bs, q2⟩ := r2.reads h.K I 61 (by rw [dp]; exact hc.2) ry
      obtain ⟨p1, d1⟩ := dp_plain 60 x' hc.1
      obtain ⟨p2, d2⟩ := dpL_plain 60 ys hc.2
      have k' := k.bl
      rw [← any_map] at k'
      exact SeqAt.notIn_tuple_data q2 q1 p2 p1 (by have := h.hu; omega) (fin_b I k')
    · cases e
  · cases e

/-! ### items, slices -/
theorem atI_el {α β : Type} {xs : List α} {vs : List β} {i : Int} {x : α} (hl : xs.length = vs.length) (h : atI xs i = some x) : ∃ (j : Nat) (w : β), xs[j]? = some x ∧ vs[j]? = some w ∧ atI vs i = some w := by
  unfold atI at h ⊢
  rw [hl] at h
  cases e : ixN vs.length i with
  | none => rw [e] at h; cases h
  | some j =>
    rw [e] at h
    have h' : xs[j]? = some x := h
    have hj : j < vs.length := hl ▸ (List.getElem?_eq_some_iff.mp h').1
    exact ⟨j, vs[j], h', by simp [hj], by simp [hj]⟩
def gItem : List D → Option D
  | [.lst _ xs, .int i] => (atI xs i).bind fun d => if isF d then some d else none
  | [.tup xs, .int i] => atI xs i
  | [.str z, .int i] => if z.length ≤ sizeLine then (atI z.cps.toList i).map fun c => .str ⟨#[c]⟩ else none
  | _ => none
theorem ok_item (h : XO G X) : IxOk G X gItem := .of ix_seq fun x y H Q ⟨Z, S, ds, d, zs, a, e, k⟩ => by
  unfold gItem at e
  split at e
  · rename_i m xs i
    obtain ⟨_, _, A, B, ev, r1, r2⟩ := argv2 a
    cases ev
    rw [r2.intV]
    cases q : atI xs i with
    | none => rw [q] at e; cases e
    | some d' =>
      rw [q] at e
      simp only [Option.bind_some] at e
      split at e
      · rename_i hf
        cases e
        obtain ⟨p, vs, rfl, sq, hl, he, _⟩ := r1.lstV
        obtain ⟨j, w, e1, e2, e3⟩ := atI_el hl q
        obtain ⟨B', rB, _⟩ := he j d w e1 e2
        rw [← h.K] at sq
        exact .inl ⟨p, vs, i, w, rfl, rfl, sq, e3, k.old (rB.frozen hf).1⟩
      · cases e
  · rename_i xs i
    obtain ⟨_, _, A, B, ev, r1, r2⟩ := argv2 a
    cases ev
    rw [r2.intV]
    obtain ⟨p, vs, rfl, sq, hl, he, _⟩ := r1.tupV
    obtain ⟨j, w, e1, e2, e3⟩ := atI_el hl e
    rw [← h.K] at sq
    exact .inr (.inl ⟨p, vs, i, w, rfl, rfl, sq, e3, k.old (he j d w e1 e2)⟩)
  · rename_i z i
    split at e
    · rename_i hz
      obtain ⟨_, _, A, B, ev, r1, r2⟩ := argv2 a
      cases ev
      rw [r2.intV, r1.strV]
      cases q : atI z.cps.toList i with
      | none => rw [q] at e; cases e
      | some c =>
        rw [q] at e
        cases e
        exact .inr (.inr ⟨z, i, c, rfl, rfl, hz, q, k.str⟩)
    · cases e
  · cases e
/-! ### built-in functions -/
def gLen : List D → Option D
  | [.str z] => if z.length ≤ sizeLine then some (.int z.length) else none
  | [.lst _ xs] => some (.int xs.length)
  | [.tup xs] => some (.int xs.length)
  | _ => none
theorem ok_len (h : XO G X) : CallOk G X (.builtin "len") gLen := .of (call_len_str.or call_len_seq) fun xs H Q ⟨Z, S, ds, d, zs, a, e, k⟩ => by
  unfold gLen at e
  split at e
  · split at e
    · rename_i hz
      cases e
      obtain ⟨_, A, rfl, r1⟩ := argv1 a
      rw [r1.strV]
      exact .inl ⟨_, rfl, hz, k.int⟩
    · cases e
  · cases e
    obtain ⟨_, A, rfl, r1⟩ := argv1 a
    obtain ⟨p, vs, rfl, sq, hl, he, _⟩ := r1.lstV
    rw [← h.K] at sq
    exact .inr ⟨p, vs, rfl, .inl sq, by rw [← hl]; exact k.int⟩
  · cases e
    obtain ⟨_, A, rfl, r1⟩ := argv1 a
    obtain ⟨p, vs, rfl, sq, hl, he, _⟩ := r1.tupV
    rw [← h.K] at sq
    exact .inr ⟨p, vs, rfl, .inr sq, by rw [← hl]; exact k.int⟩
  · cases e
def gAbs : List D → Option D
  | [.int i] => some (.int (if i < 0 then -i else i))
  | _ => none
theorem ok_abs (h : XO G X) : CallOk G X (.builtin "abs") gAbs := .of call_abs fun xs H Q ⟨Z, S, ds, d, zs, a, e, k⟩ => by
  unfold gAbs at e
  split at e
  · cases e
    obtain ⟨_, A, rfl, r1⟩ := argv1 a
    rw [r1.intV]
    exact ⟨_, rfl, k.int⟩
  · cases e
def gIntOf : List D → Option D
  | [.int i] => some (.int i)
  | [.bl b] => some (.int (if b then 1 else 0))
  | [.str z] => if z.length ≤ 640 then (PySem.intText? z).map fun n => .int n else none
  | _ => none
theorem ok_int (h : XO G X) : CallOk G X (.type "int") gIntOf := .of (call_int1.or call_int_str) fun xs H Q ⟨Z, S, ds, d, zs, a, e, k⟩ => by
  unfold gIntOf at e
  split at e
  · cases e
    obtain ⟨_, A, rfl, r1⟩ := argv1 a
    rw [r1.intV]
    exact .inl (.inl ⟨_, rfl, k.int⟩)
  · cases e
    obtain ⟨_, A, rfl, r1⟩ := argv1 a
    rw [r1.blV]
    exact .inl (.inr ⟨_, rfl, k.int⟩)
  · rename_i z
    split at e
    · rename_i hz
      obtain ⟨_, A, rfl, r1⟩ := argv1 a
      rw [r1.strV]
      cases q : PySem.intText? z with
      | none => rw [q] at e; cases e
      | some n =>
        rw [q] at e
        cases e
        exact .inr ⟨z, n, rfl, q, hz, k.int⟩
    · cases e
  · cases e
def gStrOf : List D → Option D
  | [.int i] => if i.natAbs.log2 < 1920 then some (.str (toString i)) else none
  | _ => none
theorem ok_str (h : XO G X) : CallOk G X (.type "str") gStrOf := .of call_str_int fun xs H Q ⟨Z, S, ds, d, zs, a, e, k⟩ => by
  unfold gStrOf at e
  split at e
  · split at e
    · rename_i hz
      cases e
      obtain ⟨_, A, rfl, r1⟩ := argv1 a
      rw [r1.intV]
      exact ⟨_, rfl, hz, k.str⟩
    · cases e
  · cases e
/-- list(x) of a list or a tuple -/
def gList : List D → Option D
  | [.lst m xs] => if shal m then some (.lst .o xs) else none
  | [.tup xs] => some (.lst .o xs)
  | _ => none
theorem ok_list (h : XO G X) : CallOk G X (.type "list") gList := .of call_list_of fun xs H Q ⟨Z, S, ds, d, zs, a, e, k⟩ => by
  unfold gList at e
  split at e
  · split at e
    · rename_i hs
      cases e
      obtain ⟨_, A, rfl, r1⟩ := argv1 a
      obtain ⟨p, vs, rfl, sq, hl, he, _, hf⟩ := r1.lstV
      rw [← h.K] at sq
      exact ⟨p, vs, rfl, .inl sq, fun l hn => k.lst zs hl (hf hs) hn⟩
    · cases e
  · cases e
    obtain ⟨_, A, rfl, r1⟩ := argv1 a
    obtain ⟨p, vs, rfl, sq, hl, hf, _⟩ := r1.tupV
    rw [← h.K] at sq
    exact ⟨p, vs, rfl, .inr sq, fun l hn => k.lst zs hl hf hn⟩
  · cases e
def gTuple : List D → Option D
  | [.lst m xs] => if shal m then some (.tup xs) else none
  | [.tup xs] => some (.tup xs)
  | _ => none
theorem ok_tuple (h : XO G X) : CallOk G X (.type "tuple") gTuple := .of call_tuple_of fun xs H Q ⟨Z, S, ds, d, zs, a, e, k⟩ => by
  unfold gTuple at e
  split at e
  · split at e
    · rename_i hs
      cases e
      obtain ⟨_, A, rfl, r1⟩ := argv1 a
      obtain ⟨p, vs, rfl, sq, hl, he, _, hf⟩ := r1.lstV
      rw [← h.K] at sq
      exact ⟨p, vs, rfl, .inl ⟨sq, fun l hn => k.tup hl (hf hs) hn⟩⟩
    · cases e
  · cases e
    obtain ⟨_, A, rfl, r1⟩ := argv1 a
    obtain ⟨p, vs, rfl, sq, hl, hf, _⟩ := r1.tupV
    rw [← h.K] at sq
    refine ⟨p, vs, rfl, .inr ⟨sq, ?_⟩⟩
    cases r1 with
    | fz r _ => exact k.old r
  · cases e
end
end PD
/-! P, part 5: names frozen or moved, displays, ways. -/
namespace PD
open PySem L2

/-- what is stored elsewhere is frozen -/
def cap (d : D) : D := if isF d then d else frz d
/-- a view is stored elsewhere only if it is frozen -/
def capOk : List Bool → List D → Bool
  | k :: ks, d :: ds => (!k || isF d) && capOk ks ds
  | _, _ => true
theorem capOk_at : ∀ {ks : List Bool} {ds : List D} {j : Nat} {d : D}, capOk ks ds = true → ks[j]? = some true → ds[j]? = some d → isF d = true
  | [], _, j, d, _, h, _ => by simp at h
  | k :: ks, [], j, d, _, _, h => by simp at h
  | k :: ks, d' :: ds, 0, d, hc, h1, h2 => by
    simp at h1 h2
    subst h1 h2
    simp [capOk] at hc
    exact hc.1
  | k :: ks, d' :: ds, j + 1, d, hc, h1, h2 => by
    simp [capOk] at hc
    exact capOk_at hc.2 (by simpa using h1) (by simpa using h2)
mutual
/-- no lent node that its holder would freeze -/
def noL : D → Bool
  | .lst m xs => match m with | .l => false | .ll => false | .oo => noLL xs | _ => true
  | .dic m xs => match m with | .l => false | .ll => false | .oo => noLK xs | _ => true
  | .dit m _ => match m with | .l => false | _ => true
  | .ins m _ xs => match m with | .f => true | .oo => noLN xs | _ => false
  | .exc _ _ => false
  | _ => true
def noLL : List D → Bool
  | [] => true
  | d :: r => noL d && noLL r
def noLK : List (Key × D) → Bool
  | [] => true
  | (_, d) :: r => noL d && noLK r
def noLN : List (Nat × D) → Bool
  | [] => true
  | (_, d) :: r => noL d && noLN r
end
theorem noLL_at : ∀ {xs : List D} {i : Nat} {d : D}, noLL xs = true → xs[i]? = some d → noL d = true
  | d :: r, 0, _, h, e => by simp at e; subst e; rw [noLL, Bool.and_eq_true] at h; exact h.1
  | d :: r, i + 1, _, h, e => by rw [noLL, Bool.and_eq_true] at h; exact noLL_at h.2 (by simpa using e)
theorem noLK_at : ∀ {xs : List (Key × D)} {i : Nat} {p : Key × D}, noLK xs = true → xs[i]? = some p → noL p.2 = true
  | (_, d) :: r, 0, _, h, e => by simp at e; subst e; rw [noLK, Bool.and_eq_true] at h; exact h.1
  | (_, d) :: r, i + 1, _, h, e => by rw [noLK, Bool.and_eq_true] at h; exact noLK_at h.2 (by simpa using e)
theorem noLN_at : ∀ {xs : List (Nat × D)} {i : Nat} {p : Nat × D}, noLN xs = true → xs[i]? = some p → noL p.2 = true
  | (_, d) :: r, 0, _, h, e => by simp at e; subst e; rw [noLN, Bool.and_eq_true] at h; exact h.1
  | (_, d) :: r, i + 1, _, h, e => by rw [noLN, Bool.and_eq_true] at h; exact noLN_at h.2 (by simpa using e)
theorem Rep.noL {G : GC} {Z S : AS} {H : Hp} {d : D} {v : V} {A : AS} (r : Rep G Z S H d v A) : noL d = true → Rep G Z S0 H d v A := by
  induction r with
  | fz h hA => exact fun _ => .fz h hA
  | lo h hl he hA => exact fun _ => .lo h hl he hA
  | loo B h hl he hd hn ho hA ih => exact fun q => .loo B h hl (fun i d v e1 e2 => ih i d v e1 e2 (noLL_at (show noLL _ = true from q) e1)) hd hn ho hA
  | ll s h hl he hA => exact fun q => absurd (show false = true from q) Bool.false_ne_true
  | lll s h hl he hA ih => exact fun q => absurd (show false = true from q) Bool.false_ne_true
  | dco h hl he hA => exact fun _ => .dco h hl he hA
  | dcoo B h hl he hd hn ho hA ih => exact fun q => .dcoo B h hl (fun i d v e1 e2 => ih i d v e1 e2 (noLK_at (show noLK _ = true from q) e1)) hd hn ho hA
  | dcl s h hl he hA => exact fun q => absurd (show false = true from q) Bool.false_ne_true
  | dcll s h hl he hA ih => exact fun q => absurd (show false = true from q) Bool.false_ne_true
  | dto h hl he hA => exact fun _ => .dto h hl he hA
  | dtl s h hl he hA => exact fun q => absurd (show false = true from q) Bool.false_ne_true
  | ioo B h hl he hd hn ho hA ih => exact fun q => .ioo B h hl (fun i d v e1 e2 => ih i d v e1 e2 (noLN_at (show noLN _ = true from q) e1)) hd hn ho hA
  | ill s h hl he hA ih => exact fun q => absurd (show false = true from q) Bool.false_ne_true
/-- a name, frozen by being read -/
def evFv (i : Nat) : DS → Option ER := fun δ => match δ[i]? with
  | some (some d) => if isF d then some (.ok d, δ) else if noL d then some (.ok (frz d), δ.set i (some (frz d))) else none
  | _ => none
/-- a name, given away -/
def evMv (i : Nat) : DS → Option ER := fun δ => match δ[i]? with
  | some (some d) => if noL d then some (.ok d, δ.set i none) else none
  | _ => none
def evTup (ks : List Bool) (fa : DS → Option EA) : DS → Option ER := fun δ => match fa δ with
  | none => none
  | some (.ex x, δ') => some (.ex x, δ')
  | some (.ok ds, δ') => if capOk ks ds && decide (ds.length ≤ 1000) then some (.ok (.tup (ds.map cap)), δ') else none
def evLst (ks : List Bool) (fa : DS → Option EA) : DS → Option ER := fun δ => match fa δ with
  | none => none
  | some (.ex x, δ') => some (.ex x, δ')
  | some (.ok ds, δ') => if capOk ks ds && decide (ds.length ≤ 1000) then some (.ok (.lst .o (ds.map cap)), δ') else none

section
variable {G : GC} {W : WX} {X : Cx}
/-- no lent node: such data is owned or frozen through and through -/
theorem Rep.unlent {Z S : AS} {H : Hp} {d : D} {v : V} {A : AS} (r : Rep G Z S H d v A) (s : ∀ a, S a → False) : Rep G Z S0 H d v A :=
  r.mono (fun _ z => z) (fun a z => (s a z).elim) fun _ _ _ e => e
theorem set_at {α : Type} {xs : List (Option α)} {i j : Nat} {y : Option α} {d : α} (h : (xs.set i y)[j]? = some (some d)) : (j = i ∧ y = some d) ∨ (j ≠ i ∧ xs[j]? = some (some d)) := by
  by_cases e : j = i
  · subst e
    by_cases hl : j < xs.length
    · rw [List.getElem?_set_self hl] at h
      exact .inl ⟨rfl, Option.some.inj h⟩
    · rw [List.getElem?_eq_none (by simpa using hl)] at h; cases h
  · rw [List.getElem?_set_ne (Ne.symm e)] at h
    exact .inr ⟨e, h⟩
/-- a slot's value is frozen in its place -/
theorem SR.freeze {Z : AS} {S : Nat → AS} {H : Hp} {δ : DS} {σ : St} {FS : Nat → AS} {i : Nat} {d d' : D} {v : V} (r : SR G Z S H δ σ FS) (e : δ[i]? = some (some d)) (ev : σ[i]? = some (some v)) (rf : RepF G (fun x => Z x ∨ FS i x) H d' v) :
    SR G (fun x => Z x ∨ FS i x) S H (δ.set i (some d')) σ (fun j x => j ≠ i ∧ FS j x) where
  len := by rw [List.length_set]; exact r.len
  slot := fun j w ew => by
    rcases set_at ew with ⟨hj, ew2⟩ | ⟨hj, ew2⟩
    · cases ew2
      exact ⟨v, by rw [hj]; exact ev, .fz rf fun x q => q.1 hj⟩
    · obtain ⟨u, eu, rp⟩ := r.slot j w ew2
      refine ⟨u, eu, (rp.mono (fun _ z => .inl z) (fun _ z => z) fun _ _ _ e => e).congr fun x => ⟨fun q => q.2, fun q => ⟨hj, q⟩⟩⟩
  empt := fun j h x q => by
    by_cases hj : j = i
    · exact q.1 hj
    · refine r.empt j (fun w ew => h w ?_) x q.2
      rw [List.getElem?_set_ne (Ne.symm hj)]; exact ew
  disj := fun j k x a b => r.disj j k x a.2 b.2
  zs := fun a z => z.elim (r.zs a) fun q => r.own a ⟨i, q⟩
  ss := r.ss
  nz := fun a ⟨j, hj, q⟩ => ⟨fun z => z.elim (r.nz a ⟨j, q⟩).1 fun z => hj (r.disj j i a q z), (r.nz a ⟨j, q⟩).2⟩
theorem frz_of {Z : AS} {H : Hp} {d : D} {v : V} (r : RepF G Z H d v) : isF d = true := by cases r <;> rfl
theorem isF_frz {Z S : AS} {H : Hp} {d : D} {v : V} {A : AS} (r : Rep G Z S0 H d v A) : isF (frz d) = true := frz_of r.freeze
theorem rd_fv {i : Nat} : ∀ σ H Q, rdE G W false false (evFv i) σ H Q → tVar i σ H Q := by
  rintro σ H Q ⟨δ, Z, S, FS, sr, ⟨r, hr⟩, ok, -⟩
  unfold evFv at hr ok
  cases e : δ[i]? with
  | none => rw [e] at hr; cases hr
  | some q =>
    cases q with
    | none => rw [e] at hr; cases hr
    | some d =>
      simp only [e] at hr ok
      obtain ⟨v, ev, rp⟩ := sr.slot i d e
      by_cases hF : isF d = true
      · rw [if_pos hF] at ok
        obtain ⟨rf, nA⟩ := rp.frozen hF
        refine ⟨v, ev, ok d δ rfl v H Z FS S0 ⟨sr, Step.quiet fun x h => h.elim, ?_, fun q => absurd q Bool.false_ne_true⟩⟩
        rw [if_neg Bool.false_ne_true]
        exact ⟨.fz rf fun _ h => h, fun x h => h.elim⟩
      · rw [if_neg hF] at hr ok
        by_cases hN : noL d = true
        · rw [if_pos hN] at ok
          have rf := (rp.noL hN).freeze
          refine ⟨v, ev, ok (frz d) _ rfl v H _ _ S0 ⟨sr.freeze e ev rf, ?_, ?_, fun q => absurd q Bool.false_ne_true⟩⟩
          · exact ⟨fun a o e _ => e, fun a o e => ⟨o, e⟩, fun a z => .inl z, fun a z => z.imp id fun q => .inl ⟨i, q⟩, fun a z => z.elim (fun ⟨j, _, q⟩ => .inl ⟨j, q⟩) fun q => q.elim⟩
          · rw [if_neg Bool.false_ne_true]
            exact ⟨.fz rf fun _ h => h, fun x h => h.elim⟩
        · rw [if_neg hN] at hr; cases hr
/-- a slot is emptied -/
theorem SR.clear {Z : AS} {S : Nat → AS} {H : Hp} {δ : DS} {σ : St} {FS : Nat → AS} {i : Nat} (r : SR G Z S H δ σ FS) : SR G Z S H (δ.set i none) σ (fun j x => j ≠ i ∧ FS j x) where
  len := by rw [List.length_set]; exact r.len
  slot := fun j w ew => by
    rcases set_at ew with ⟨hj, ew2⟩ | ⟨hj, ew2⟩
    · cases ew2
    · obtain ⟨u, eu, rp⟩ := r.slot j w ew2
      exact ⟨u, eu, rp.congr fun x => ⟨fun q => q.2, fun q => ⟨hj, q⟩⟩⟩
  empt := fun j h x q => by
    refine r.empt j (fun w ew => h w ?_) x q.2
    rw [List.getElem?_set_ne (Ne.symm q.1)]; exact ew
  disj := fun j k x a b => r.disj j k x a.2 b.2
  zs := r.zs
  ss := r.ss
  nz := fun a ⟨j, hj, q⟩ => r.nz a ⟨j, q⟩
theorem rd_mv {i : Nat} : ∀ σ H Q, rdE G W false false (evMv i) σ H Q → tVar i σ H Q := by
  rintro σ H Q ⟨δ, Z, S, FS, sr, ⟨r, hr⟩, ok, -⟩
  unfold evMv at hr ok
  cases e : δ[i]? with
  | none => rw [e] at hr; cases hr
  | some q =>
    cases q with
    | none => rw [e] at hr; cases hr
    | some d =>
      simp only [e] at hr ok
      obtain ⟨v, ev, rp⟩ := sr.slot i d e
      by_cases hN : noL d = true
      · rw [if_pos hN] at ok
        refine ⟨v, ev, ok d _ rfl v H Z _ (FS i) ⟨sr.clear, ?_, ?_, fun q => absurd q Bool.false_ne_true⟩⟩
        · exact (Step.refl H Z (Own FS)).sub fun a z => z.elim (fun ⟨j, _, q⟩ => ⟨j, q⟩) fun q => ⟨i, q⟩
        · rw [if_neg Bool.false_ne_true]
          exact ⟨rp.noL hN, fun x h => ⟨(sr.nz x ⟨i, h⟩).1, (sr.nz x ⟨i, h⟩).2, fun ⟨j, hj, q⟩ => hj (sr.disj j i x q h)⟩⟩
      · rw [if_neg hN] at hr; cases hr
/-- what the arguments hold goes to Z -/
theorem caps {Z S : AS} {H : Hp} {FS : Nat → AS} {ks : List Bool} {ds : List D} {vs : List V} {B : Nat → AS} (a : ArgR G Z S H FS ks ds vs B) (hc : capOk ks ds = true) :
    ∀ (j : Nat) d v, (ds.map cap)[j]? = some d → vs[j]? = some v → RepF G (fun x => Z x ∨ Tm ks B x) H d v := fun j d v e1 e2 => by
  obtain ⟨d0, e0, rfl⟩ := getMap e1
  have hj : j < ds.length := (List.getElem?_eq_some_iff.mp e0).1
  have hk : j < ks.length := by rw [a.l2]; exact hj
  have ek : ks[j]? = some ks[j] := by simp [hk]
  have q := a.rep j d0 v ks[j] e0 e2 ek
  unfold cap
  cases hkv : ks[j] with
  | true =>
    rw [hkv, if_pos rfl] at q
    rw [hkv] at ek
    have hF := capOk_at hc ek e0
    rw [if_pos hF]
    exact (q.1.frozen hF).1.mono (fun _ z => .inl z) fun _ _ _ e => e
  | false =>
    rw [hkv, if_neg Bool.false_ne_true] at q
    rw [hkv] at ek
    by_cases hF : isF d0 = true
    · rw [if_pos hF]
      exact (q.1.frozen hF).1.mono (fun _ z => .inl z) fun _ _ _ e => e
    · rw [if_neg hF]
      exact q.1.freeze.mono (fun x z => z.imp id fun w => ⟨j, ek, w⟩) fun _ _ _ e => e
/-- .. and the state stays -/
theorem SR.more {Z : AS} {S : Nat → AS} {H : Hp} {δ : DS} {σ : St} {FS : Nat → AS} {T : AS} (r : SR G Z S H δ σ FS) (ht : ∀ x, T x → (∃ o, H x = some o) ∧ ¬ Own S x ∧ ¬ Own FS x) : SR G (fun x => Z x ∨ T x) S H δ σ FS where
  len := r.len
  slot := fun i d e => let ⟨v, e1, rp⟩ := r.slot i d e; ⟨v, e1, rp.mono (fun _ z => .inl z) (fun _ z => z) fun _ _ _ e => e⟩
  empt := r.empt
  disj := r.disj
  zs := fun a z => z.elim (r.zs a) fun q => (ht a q).1
  ss := r.ss
  nz := fun a z => ⟨fun q => q.elim (r.nz a z).1 fun q => (ht a q).2.2 z, (r.nz a z).2⟩
theorem Tm.out {Z S : AS} {H : Hp} {FS : Nat → AS} {ks : List Bool} {ds : List D} {vs : List V} {B : Nat → AS} (a : ArgR G Z S H FS ks ds vs B) (x : Addr) (t : Tm ks B x) : (∃ o, H x = some o) ∧ ¬ Z x ∧ ¬ S x ∧ ¬ Own FS x := by
  obtain ⟨j, hk, hb⟩ := t
  have hj : j < ks.length := (List.getElem?_eq_some_iff.mp hk).1
  have hd : j < ds.length := by rw [← a.l2]; exact hj
  have hv : j < vs.length := by rw [← a.l1]; exact hd
  have q := a.rep j ds[j] vs[j] false (by simp [hd]) (by simp [hv]) hk
  rw [if_neg Bool.false_ne_true] at q
  exact ⟨q.1.own x hb, q.2 x hb⟩
theorem sz1000 {n : Nat} (h : n ≤ 1000) : n ≤ sizeLine := Nat.le_trans h (by decide)
/-- (a, b, ..) -/
theorem rd_tup {ks : List Bool} {qt : Bool} {fa : DS → Option EA} {tr : TA} (ha : ∀ σ H Q, rdA G W ks qt fa σ H Q → tr σ H Q) : ∀ σ H Q, rdE G W false qt (evTup ks fa) σ H Q → tTup tr σ H Q := by
  rintro σ H Q ⟨δ, Z, S, FS, sr, ⟨w, hf⟩, ok, ex⟩
  unfold evTup at hf ok ex
  refine ha σ H _ ⟨δ, Z, S, FS, sr, ?_, fun ds δ' h vs H' Z' FS' B p => ?_, fun x δ' h => ?_⟩
  · cases q : fa δ with
    | none => rw [q] at hf; cases hf
    | some w => exact ⟨w, rfl⟩
  · rw [h] at hf ok
    simp only at hf ok
    by_cases hc : (capOk ks ds && decide (ds.length ≤ 1000)) = true
    · rw [if_pos hc] at ok
      rw [Bool.and_eq_true, decide_eq_true_eq] at hc
      refine ⟨by rw [← p.ar.l1]; exact sz1000 hc.2, fun a hn => ?_⟩
      have cs := caps p.ar hc.1
      have tm := fun x t => Tm.out p.ar x t
      refine ok _ δ' rfl (.ref a) _ (fun x => (Z' x ∨ Tm ks B x) ∨ x = a) FS' S0 ⟨?_, ?_, ?_, fun q => ?_⟩
      · exact (p.sr.more fun x t => ⟨(tm x t).1, (tm x t).2.2⟩).grow (same_upd hn) (fun _ z => .inl z) fun x z => z.imp id fun q => by subst q; exact ⟨hn, _, upd_same⟩
      · refine (p.st.trans ⟨fun x o e _ => same_upd hn x o e, fun x o e => ⟨o, same_upd hn x o e⟩, fun x z => .inl (.inl z), fun x z => ?_, fun x z => .inl ?_⟩)
        · rcases z with (z | z) | z
          · exact .inl z
          · exact .inr (.inl (.inr z))
          · subst z; exact .inr (.inr hn)
        · exact z.elim .inl fun q => q.elim
      · rw [if_neg Bool.false_ne_true]
        refine ⟨.fz (.tup (.inl ⟨.inr rfl, .inl upd_same⟩) (by rw [List.length_map]; exact p.ar.l1) fun j d v e1 e2 => (cs j d v e1 e2).mono (fun _ z => .inl z) fun x _ o e => same_upd hn x o e) fun _ z => z, fun x z => z.elim⟩
      · obtain ⟨b, c⟩ := p.qq q
        exact ⟨b, c.trans (same_upd hn)⟩
    · rw [if_neg hc] at hf; cases hf
  · rw [h] at ex
    exact ex x δ' rfl
/-- [a, b, ..]: its items frozen -/
theorem rd_lst {ks : List Bool} {qt : Bool} {fa : DS → Option EA} {tr : TA} (ha : ∀ σ H Q, rdA G W ks qt fa σ H Q → tr σ H Q) : ∀ σ H Q, rdE G W false qt (evLst ks fa) σ H Q → tLst tr σ H Q := by
  rintro σ H Q ⟨δ, Z, S, FS, sr, ⟨w, hf⟩, ok, ex⟩
  unfold evLst at hf ok ex
  refine ha σ H _ ⟨δ, Z, S, FS, sr, ?_, fun ds δ' h vs H' Z' FS' B p => ?_, fun x δ' h => ?_⟩
  · cases q : fa δ with
    | none => rw [q] at hf; cases hf
    | some w => exact ⟨w, rfl⟩
  · rw [h] at hf ok
    simp only at hf ok
    by_cases hc : (capOk ks ds && decide (ds.length ≤ 1000)) = true
    · rw [if_pos hc] at ok
      rw [Bool.and_eq_true, decide_eq_true_eq] at hc
      refine ⟨by rw [← p.ar.l1]; exact sz1000 hc.2, fun a hn => ?_⟩
      have cs := caps p.ar hc.1
      have tm := fun x t => Tm.out p.ar x t
      refine ok _ δ' rfl (.ref a) _ (fun x => Z' x ∨ Tm ks B x) FS' (fun x => x = a) ⟨?_, ?_, ?_, fun q => ?_⟩
      · exact (p.sr.more fun x t => ⟨(tm x t).1, (tm x t).2.2⟩).same (same_upd hn)
      · refine (p.st.trans ⟨fun x o e _ => same_upd hn x o e, fun x o e => ⟨o, same_upd hn x o e⟩, fun x z => .inl z, fun x z => ?_, fun x z => ?_⟩)
        · rcases z with z | z
          · exact .inl z
          · exact .inr (.inl (.inr z))
        · rcases z with z | z
          · exact .inl (.inl z)
          · subst z; exact .inr hn
      · rw [if_neg Bool.false_ne_true]
        refine ⟨.lo upd_same (by rw [List.length_map]; exact p.ar.l1) (fun j d v e1 e2 => (cs j d v e1 e2).same (same_upd hn)) fun _ => Iff.rfl, fun x z => ?_⟩
        subst z
        refine ⟨fun q => ?_, fun q => ?_, fun q => ?_⟩
        · rcases q with q | q
          · obtain ⟨o, e⟩ := p.sr.zs x q; rw [hn] at e; cases e
          · obtain ⟨o, e⟩ := (tm x q).1; rw [hn] at e; cases e
        · obtain ⟨o, e⟩ := p.sr.ss x q; rw [hn] at e; cases e
        · obtain ⟨o, e⟩ := p.sr.own x q; rw [hn] at e; cases e
      · obtain ⟨b, c⟩ := p.qq q
        exact ⟨b, c.trans (same_upd hn)⟩
    · rw [if_neg hc] at hf; cases hf
  · rw [h] at ex
    exact ex x δ' rfl

/-! ### tests and ways -/
abbrev EB := RR Bool × DS
structure PostB (G : GC) (S : Nat → AS) (qt : Bool) (σ : St) (H : Hp) (Z : AS) (FS : Nat → AS) (δ' : DS) (H' : Hp) (Z' : AS) (FS' : Nat → AS) : Prop where
  sr : SR G Z' S H' δ' σ FS'
  st : Step H Z (Own FS) H' Z' (Own FS')
  qq : qt = true → FS' = FS ∧ Same H H'
def rdT (G : GC) (W : WX) (qt : Bool) (f : DS → Option EB) : TT := fun σ H Q => ∃ δ Z S FS, SR G Z S H δ σ FS ∧ (∃ r, f δ = some r) ∧
  (∀ b δ', f δ = some (.ok b, δ') → ∀ H' Z' FS', PostB G S qt σ H Z FS δ' H' Z' FS' → Q b H') ∧
  (∀ x δ', f δ = some (.ex x, δ') → ∀ c dd H' Z' FS', PostX G S σ H Z FS x δ' c dd H' Z' FS' → W c dd σ H')
/-- what an expression leaves, its value dropped -/
theorem PostE.b {S : Nat → AS} {vw qt : Bool} {σ : St} {H : Hp} {Z : AS} {FS : Nat → AS} {d : D} {δ' : DS} {v : V} {H' : Hp} {Z' : AS} {FS' : Nat → AS} {A : AS} (p : PostE G S vw qt σ H Z FS d δ' v H' Z' FS' A) : PostB G S qt σ H Z FS δ' H' Z' FS' :=
  ⟨p.sr, p.st.sub fun _ z => .inl z, p.qq⟩
theorem PostE.rep {S : Nat → AS} {vw qt : Bool} {σ : St} {H : Hp} {Z : AS} {FS : Nat → AS} {d : D} {δ' : DS} {v : V} {H' : Hp} {Z' : AS} {FS' : Nat → AS} {A : AS} (p : PostE G S vw qt σ H Z FS d δ' v H' Z' FS' A) : Rep G Z' (Own S) H' d v A := by
  have q := p.vl
  split at q
  · exact q.1
  · exact q.1.s0
/-- b, then more -/
theorem PostB.thenB {S : Nat → AS} {q1 q2 : Bool} {σ : St} {H H1 H2 : Hp} {Z Z1 Z2 : AS} {FS FS1 FS2 : Nat → AS} {δ1 δ2 : DS} (a : PostB G S q1 σ H Z FS δ1 H1 Z1 FS1) (b : PostB G S q2 σ H1 Z1 FS1 δ2 H2 Z2 FS2) : PostB G S (q1 && q2) σ H Z FS δ2 H2 Z2 FS2 :=
  ⟨b.sr, a.st.trans b.st, fun h => by
    obtain ⟨h1, h2⟩ := Bool.and_eq_true_iff.mp h
    obtain ⟨a2, a3⟩ := a.qq h1
    obtain ⟨b2, b3⟩ := b.qq h2
    exact ⟨b2.trans a2, a3.trans b3⟩⟩
theorem PostB.thenE {S : Nat → AS} {q1 q2 vw : Bool} {σ : St} {H H1 H2 : Hp} {Z Z1 Z2 : AS} {FS FS1 FS2 : Nat → AS} {δ1 δ2 : DS} {d : D} {v : V} {A : AS} (a : PostB G S q1 σ H Z FS δ1 H1 Z1 FS1) (b : PostE G S vw q2 σ H1 Z1 FS1 d δ2 v H2 Z2 FS2 A) : PostE G S vw (q1 && q2) σ H Z FS d δ2 v H2 Z2 FS2 A :=
  ⟨b.sr, a.st.trans b.st, b.vl, fun h => by
    obtain ⟨h1, h2⟩ := Bool.and_eq_true_iff.mp h
    obtain ⟨a2, a3⟩ := a.qq h1
    obtain ⟨b2, b3⟩ := b.qq h2
    exact ⟨b2.trans a2, a3.trans b3⟩⟩
theorem PostB.thenX {S : Nat → AS} {q1 : Bool} {σ : St} {H H1 H2 : Hp} {Z Z1 Z2 : AS} {FS FS1 FS2 : Nat → AS} {δ1 δ2 : DS} {x : Xc} {c : Value} {dd : Option Addr} (a : PostB G S q1 σ H Z FS δ1 H1 Z1 FS1) (b : PostX G S σ H1 Z1 FS1 x δ2 c dd H2 Z2 FS2) : PostX G S σ H Z FS x δ2 c dd H2 Z2 FS2 :=
  ⟨b.sr, a.st.trans b.st, b.xr⟩
theorem PostB.weak {S : Nat → AS} {q1 q2 : Bool} {σ : St} {H H1 : Hp} {Z Z1 : AS} {FS FS1 : Nat → AS} {δ1 : DS} (a : PostB G S q1 σ H Z FS δ1 H1 Z1 FS1) (h : q2 = true → q1 = true) : PostB G S q2 σ H Z FS δ1 H1 Z1 FS1 := ⟨a.sr, a.st, fun q => a.qq (h q)⟩
theorem PostE.weak {S : Nat → AS} {q1 q2 vw : Bool} {σ : St} {H H1 : Hp} {Z Z1 : AS} {FS FS1 : Nat → AS} {δ1 : DS} {d : D} {v : V} {A : AS} (a : PostE G S vw q1 σ H Z FS d δ1 v H1 Z1 FS1 A) (h : q2 = true → q1 = true) : PostE G S vw q2 σ H Z FS d δ1 v H1 Z1 FS1 A := ⟨a.sr, a.st, a.vl, fun q => a.qq (h q)⟩
theorem PostE.opaque {S : Nat → AS} {q1 vw : Bool} {σ : St} {H H1 : Hp} {Z Z1 : AS} {FS FS1 : Nat → AS} {δ1 : DS} {d : D} {v : V} {A : AS} (a : PostE G S vw q1 σ H Z FS d δ1 v H1 Z1 FS1 A) (h : vw = true → isF d = true) : ∃ A', PostE G S false q1 σ H Z FS d δ1 v H1 Z1 FS1 A' := by
  cases hv : vw with
  | false => subst hv; exact ⟨A, a⟩
  | true =>
    have vl := a.vl
    rw [hv, if_pos rfl] at vl
    obtain ⟨rf, nA⟩ := vl.1.frozen (h hv)
    refine ⟨S0, a.sr, a.st.sub fun x z => z.elim .inl fun q => q.elim, ?_, a.qq⟩
    rw [if_neg Bool.false_ne_true]
    exact ⟨.fz rf fun _ z => z, fun x z => z.elim⟩
end
end PD
/-! P, part 6: tests, ways, chains, methods: the readings. -/
namespace PD
open PySem L2

def truD : D → Option Bool
  | .non => some false
  | .bl b => some b
  | .int i => some (i != 0)
  | .str z => if z.length ≤ sizeLine then some ((z.length : Int) != 0) else none
  | .lst _ xs => some (!xs.isEmpty)
  | .tup xs => some (!xs.isEmpty)
  | .dic _ xs => some (!xs.isEmpty)
  | _ => none
def blD : D → Option Bool
  | .bl b => some b
  | _ => none
def evTr (g : D → Option Bool) (f : DS → Option ER) : DS → Option EB := fun δ => match f δ with
  | none => none
  | some (.ex x, δ') => some (.ex x, δ')
  | some (.ok d, δ') => match g d with
    | none => none
    | some b => some (.ok b, δ')
def evNotT (f : DS → Option EB) : DS → Option EB := fun δ => match f δ with
  | none => none
  | some (.ex x, δ') => some (.ex x, δ')
  | some (.ok b, δ') => some (.ok (!b), δ')
def evAndT (f g : DS → Option EB) : DS → Option EB := fun δ => match f δ with
  | none => none
  | some (.ex x, δ') => some (.ex x, δ')
  | some (.ok b, δ') => if b = true then g δ' else some (.ok false, δ')
def evOrT (f g : DS → Option EB) : DS → Option EB := fun δ => match f δ with
  | none => none
  | some (.ex x, δ') => some (.ex x, δ')
  | some (.ok b, δ') => if b = true then some (.ok true, δ') else g δ'
/-- as values: all but the last are truth values -/
def evAndV (f g : DS → Option ER) : DS → Option ER := fun δ => match f δ with
  | none => none
  | some (.ex x, δ') => some (.ex x, δ')
  | some (.ok d, δ') => match blD d with
    | none => none
    | some b => if b = true then g δ' else some (.ok (.bl false), δ')
def evOrV (f g : DS → Option ER) : DS → Option ER := fun δ => match f δ with
  | none => none
  | some (.ex x, δ') => some (.ex x, δ')
  | some (.ok d, δ') => match blD d with
    | none => none
    | some b => if b = true then some (.ok (.bl true), δ') else g δ'
def evNotV (f : DS → Option ER) : DS → Option ER := fun δ => match f δ with
  | none => none
  | some (.ex x, δ') => some (.ex x, δ')
  | some (.ok d, δ') => match blD d with
    | none => none
    | some b => some (.ok (.bl (!b)), δ')
/-- a value that is to be kept: a view must be frozen -/
def evOpq (vw : Bool) (f : DS → Option ER) : DS → Option ER := fun δ => match f δ with
  | none => none
  | some (.ex x, δ') => some (.ex x, δ')
  | some (.ok d, δ') => if vw && !isF d then none else some (.ok d, δ')
def evIf (t : DS → Option EB) (f g : DS → Option ER) : DS → Option ER := fun δ => match t δ with
  | none => none
  | some (.ex x, δ') => some (.ex x, δ')
  | some (.ok b, δ') => if b = true then f δ' else g δ'
def evGuard (c : D → Bool) (f : DS → Option ER) : DS → Option ER := fun δ => match f δ with
  | none => none
  | some (.ex x, δ') => some (.ex x, δ')
  | some (.ok d, δ') => if c d then some (.ok d, δ') else none

section
variable {G : GC} {W : WX} {X : Cx}
theorem truV_of {Z S : AS} {H : Hp} {d : D} {v : V} {A : AS} {b : Bool} (r : Rep G Z S H d v A) (h : truD d = some b) : TruV G.K v H b := by
  cases d with
  | non => rw [r.nonV]; cases h; rfl
  | bl k => rw [r.blV]; cases h; rfl
  | int i => rw [r.intV]; cases h; rfl
  | str z =>
    rw [r.strV]
    have h' : (if z.length ≤ sizeLine then some ((z.length : Int) != 0) else none) = some b := h
    by_cases hz : z.length ≤ sizeLine
    · rw [if_pos hz] at h'; cases h'; exact ⟨hz, rfl⟩
    · rw [if_neg hz] at h'; cases h'
  | lst m xs =>
    obtain ⟨a, vs, rfl, sq, hl, _⟩ := r.lstV
    cases h
    refine .inl ⟨vs, sq, ?_⟩
    cases xs <;> cases vs <;> first | rfl | simp at hl
  | tup xs =>
    obtain ⟨a, vs, rfl, sq, hl, _⟩ := r.tupV
    cases h
    refine .inr (.inl ⟨vs, sq, ?_⟩)
    cases xs <;> cases vs <;> first | rfl | simp at hl
  | dic m xs =>
    cases h
    have fin : ∀ {a : Addr} {ws : List (Key × V)}, H a = some (.dK ws) → xs.map (·.1) = ws.map (·.1) → TruV G.K (.ref a) H (!xs.isEmpty) := fun {a ws} e hl => by
      refine .inr (.inr ⟨ws, e, ?_⟩)
      cases xs <;> cases ws <;> first | rfl | simp at hl
    cases r with
    | fz h hA => cases h with | dic z h hl he => exact fin h hl
    | dco h hl he hA => exact fin h hl
    | dcoo B h hl he hd hn ho hA => exact fin h hl
    | dcl s h hl he hA => exact fin h hl
    | dcll s h hl he hA => exact fin h hl
  | _ => cases h
theorem some_of {α β : Type} {o : Option α} {f : α → Option β} {b : β} (h : (match o with | none => none | some a => f a) = some b) : ∃ a, o = some a ∧ f a = some b := by
  cases o with
  | none => cases h
  | some a => exact ⟨a, rfl, h⟩
/-- a value's truth as a test -/
theorem rd_tru {vw qt : Bool} {f : DS → Option ER} {te : TE} (ha : ∀ σ H Q, rdE G W vw qt f σ H Q → te σ H Q) : ∀ σ H Q, rdT G W qt (evTr truD f) σ H Q → te σ H fun x H' => ∃ k, TruV G.K x H' k ∧ Q k H' := by
  rintro σ H Q ⟨δ, Z, S, FS, sr, ⟨w, hf⟩, ok, ex⟩
  unfold evTr at hf ok ex
  refine ha σ H _ ⟨δ, Z, S, FS, sr, ?_, fun d δ' h v H' Z' FS' A p => ?_, fun x δ' h => ?_⟩
  · cases q : f δ with
    | none => rw [q] at hf; cases hf
    | some w => exact ⟨w, rfl⟩
  · rw [h] at hf ok
    simp only at hf ok
    cases e : truD d with
    | none => rw [e] at hf; cases hf
    | some b =>
      rw [e] at ok
      exact ⟨b, truV_of p.rep e, ok b δ' rfl H' Z' FS' p.b⟩
  · rw [h] at ex
    exact ex x δ' rfl
theorem rd_trb {vw qt : Bool} {f : DS → Option ER} {te : TE} (ha : ∀ σ H Q, rdE G W vw qt f σ H Q → te σ H Q) : ∀ σ H Q, rdT G W qt (evTr blD f) σ H Q → te σ H fun x H' => ∃ k, x = .bl k ∧ Q k H' := by
  rintro σ H Q ⟨δ, Z, S, FS, sr, ⟨w, hf⟩, ok, ex⟩
  unfold evTr at hf ok ex
  refine ha σ H _ ⟨δ, Z, S, FS, sr, ?_, fun d δ' h v H' Z' FS' A p => ?_, fun x δ' h => ?_⟩
  · cases q : f δ with
    | none => rw [q] at hf; cases hf
    | some w => exact ⟨w, rfl⟩
  · rw [h] at hf ok
    simp only at hf ok
    cases d with
    | bl b => exact ⟨b, p.rep.blV, ok b δ' rfl H' Z' FS' p.b⟩
    | _ => cases hf
  · rw [h] at ex
    exact ex x δ' rfl
theorem rd_notT {qt : Bool} {f : DS → Option EB} {tt : TT} (ha : ∀ σ H Q, rdT G W qt f σ H Q → tt σ H Q) : ∀ σ H Q, rdT G W qt (evNotT f) σ H Q → tNot tt σ H Q := by
  rintro σ H Q ⟨δ, Z, S, FS, sr, ⟨w, hf⟩, ok, ex⟩
  unfold evNotT at hf ok ex
  refine ha σ H _ ⟨δ, Z, S, FS, sr, ?_, fun d δ' h H' Z' FS' p => ?_, fun x δ' h => ?_⟩
  · cases q : f δ with
    | none => rw [q] at hf; cases hf
    | some w => exact ⟨w, rfl⟩
  · rw [h] at ok
    exact ok _ δ' rfl H' Z' FS' p
  · rw [h] at ex
    exact ex x δ' rfl
theorem rd_andT {q1 q2 : Bool} {f g : DS → Option EB} {ta tb : TT} (ha : ∀ σ H Q, rdT G W q1 f σ H Q → ta σ H Q) (hb : ∀ σ H Q, rdT G W q2 g σ H Q → tb σ H Q) : ∀ σ H Q, rdT G W (q1 && q2) (evAndT f g) σ H Q → tAnd ta tb σ H Q := by
  rintro σ H Q ⟨δ, Z, S, FS, sr, ⟨w, hf⟩, ok, ex⟩
  unfold evAndT at hf ok ex
  refine ha σ H _ ⟨δ, Z, S, FS, sr, ?_, fun b δ' h H' Z' FS' p => ?_, fun x δ' h => ?_⟩
  · cases q : f δ with
    | none => rw [q] at hf; cases hf
    | some w => exact ⟨w, rfl⟩
  · rw [h] at hf ok ex
    simp only at hf ok ex
    cases b with
    | true =>
      rw [if_pos rfl]
      rw [if_pos rfl] at hf ok ex
      exact hb σ H' _ ⟨δ', Z', S, FS', p.sr, ⟨w, hf⟩, fun b δ2 h2 H2 Z2 FS2 p2 => ok b δ2 h2 H2 Z2 FS2 (p.thenB p2), fun x δ2 h2 c dd H2 Z2 FS2 p2 => ex x δ2 h2 c dd H2 Z2 FS2 (p.thenX p2)⟩
    | false =>
      rw [if_neg Bool.false_ne_true]
      rw [if_neg Bool.false_ne_true] at ok
      exact ok false δ' rfl H' Z' FS' (p.weak fun h => (Bool.and_eq_true_iff.mp h).1)
  · rw [h] at ex
    exact ex x δ' rfl
theorem rd_orT {q1 q2 : Bool} {f g : DS → Option EB} {ta tb : TT} (ha : ∀ σ H Q, rdT G W q1 f σ H Q → ta σ H Q) (hb : ∀ σ H Q, rdT G W q2 g σ H Q → tb σ H Q) : ∀ σ H Q, rdT G W (q1 && q2) (evOrT f g) σ H Q → tOr ta tb σ H Q := by
  rintro σ H Q ⟨δ, Z, S, FS, sr, ⟨w, hf⟩, ok, ex⟩
  unfold evOrT at hf ok ex
  refine ha σ H _ ⟨δ, Z, S, FS, sr, ?_, fun b δ' h H' Z' FS' p => ?_, fun x δ' h => ?_⟩
  · cases q : f δ with
    | none => rw [q] at hf; cases hf
    | some w => exact ⟨w, rfl⟩
  · rw [h] at hf ok ex
    simp only at hf ok ex
    cases b with
    | false =>
      rw [if_neg Bool.false_ne_true]
      rw [if_neg Bool.false_ne_true] at hf ok ex
      exact hb σ H' _ ⟨δ', Z', S, FS', p.sr, ⟨w, hf⟩, fun b δ2 h2 H2 Z2 FS2 p2 => ok b δ2 h2 H2 Z2 FS2 (p.thenB p2), fun x δ2 h2 c dd H2 Z2 FS2 p2 => ex x δ2 h2 c dd H2 Z2 FS2 (p.thenX p2)⟩
    | true =>
      rw [if_pos rfl]
      rw [if_pos rfl] at ok
      exact ok true δ' rfl H' Z' FS' (p.weak fun h => (Bool.and_eq_true_iff.mp h).1)
  · rw [h] at ex
    exact ex x δ' rfl
/-- a value that is kept -/
theorem rd_opq {vw qt : Bool} {f : DS → Option ER} {te : TE} (ha : ∀ σ H Q, rdE G W vw qt f σ H Q → te σ H Q) : ∀ σ H Q, rdE G W false qt (evOpq vw f) σ H Q → te σ H Q := by
  rintro σ H Q ⟨δ, Z, S, FS, sr, ⟨w, hf⟩, ok, ex⟩
  unfold evOpq at hf ok ex
  refine ha σ H _ ⟨δ, Z, S, FS, sr, ?_, fun d δ' h v H' Z' FS' A p => ?_, fun x δ' h => ?_⟩
  · cases q : f δ with
    | none => rw [q] at hf; cases hf
    | some w => exact ⟨w, rfl⟩
  · rw [h] at hf ok
    simp only at hf ok
    by_cases hc : (vw && !isF d) = true
    · rw [if_pos hc] at hf; cases hf
    · rw [if_neg hc] at ok
      obtain ⟨A', p'⟩ := p.opaque fun hv => by
        cases q : isF d with
        | true => rfl
        | false => exact absurd (by simp [hv, q]) hc
      exact ok d δ' rfl v H' Z' FS' A' p'
  · rw [h] at ex
    exact ex x δ' rfl
theorem rd_if {q1 q2 q3 : Bool} {t : DS → Option EB} {f g : DS → Option ER} {tt : TT} {ta tb : TE} (ht : ∀ σ H Q, rdT G W q1 t σ H Q → tt σ H Q) (ha : ∀ σ H Q, rdE G W false q2 f σ H Q → ta σ H Q) (hb : ∀ σ H Q, rdE G W false q3 g σ H Q → tb σ H Q) :
    ∀ σ H Q, rdE G W false (q1 && q2 && q3) (evIf t f g) σ H Q → tIf tt ta tb σ H Q := by
  rintro σ H Q ⟨δ, Z, S, FS, sr, ⟨w, hf⟩, ok, ex⟩
  unfold evIf at hf ok ex
  refine ht σ H _ ⟨δ, Z, S, FS, sr, ?_, fun b δ' h H' Z' FS' p => ?_, fun x δ' h => ?_⟩
  · cases q : t δ with
    | none => rw [q] at hf; cases hf
    | some w => exact ⟨w, rfl⟩
  · rw [h] at hf ok ex
    simp only at hf ok ex
    cases b with
    | true =>
      rw [if_pos rfl]
      rw [if_pos rfl] at hf ok ex
      exact ha σ H' _ ⟨δ', Z', S, FS', p.sr, ⟨w, hf⟩, fun d δ2 h2 v H2 Z2 FS2 A p2 => ok d δ2 h2 v H2 Z2 FS2 A ((p.thenE p2).weak fun h => by simp only [Bool.and_eq_true] at h ⊢; exact ⟨h.1.1, h.1.2⟩), fun x δ2 h2 c dd H2 Z2 FS2 p2 => ex x δ2 h2 c dd H2 Z2 FS2 (p.thenX p2)⟩
    | false =>
      rw [if_neg Bool.false_ne_true]
      rw [if_neg Bool.false_ne_true] at hf ok ex
      exact hb σ H' _ ⟨δ', Z', S, FS', p.sr, ⟨w, hf⟩, fun d δ2 h2 v H2 Z2 FS2 A p2 => ok d δ2 h2 v H2 Z2 FS2 A ((p.thenE p2).weak fun h => by simp only [Bool.and_eq_true] at h ⊢; exact ⟨h.1.1, h.2⟩), fun x δ2 h2 c dd H2 Z2 FS2 p2 => ex x δ2 h2 c dd H2 Z2 FS2 (p.thenX p2)⟩
  · rw [h] at ex
    exact ex x δ' rfl
theorem rep_bl (Z : AS) (H : Hp) (b : Bool) : Rep G Z S0 H (.bl b) (.bl b) S0 := .fz (.bl b) fun _ z => z
theorem PostB.bl {S : Nat → AS} {q : Bool} {σ : St} {H H1 : Hp} {Z Z1 : AS} {FS FS1 : Nat → AS} {δ1 : DS} (a : PostB G S q σ H Z FS δ1 H1 Z1 FS1) (b : Bool) : PostE G S false q σ H Z FS (.bl b) δ1 (.bl b) H1 Z1 FS1 S0 := by
  refine ⟨a.sr, a.st.sub fun x z => z.elim id fun q => q.elim, ?_, a.qq⟩
  rw [if_neg Bool.false_ne_true]
  exact ⟨rep_bl _ _ b, fun x z => z.elim⟩
theorem rd_andV {v1 q1 q2 : Bool} {f g : DS → Option ER} {ta tb : TE} (ha : ∀ σ H Q, rdE G W v1 q1 f σ H Q → ta σ H Q) (hb : ∀ σ H Q, rdE G W false q2 g σ H Q → tb σ H Q) : ∀ σ H Q, rdE G W false (q1 && q2) (evAndV f g) σ H Q → tAndV ta tb σ H Q := by
  rintro σ H Q ⟨δ, Z, S, FS, sr, ⟨w, hf⟩, ok, ex⟩
  unfold evAndV at hf ok ex
  refine ha σ H _ ⟨δ, Z, S, FS, sr, ?_, fun d δ' h v H' Z' FS' A p => ?_, fun x δ' h => ?_⟩
  · cases q : f δ with
    | none => rw [q] at hf; cases hf
    | some w => exact ⟨w, rfl⟩
  · rw [h] at hf ok ex
    simp only at hf ok ex
    cases d with
    | bl b =>
      refine ⟨b, p.rep.blV, ?_⟩
      simp only [blD] at hf ok ex
      cases b with
      | true =>
        rw [if_pos rfl]
        rw [if_pos rfl] at hf ok ex
        exact hb σ H' _ ⟨δ', Z', S, FS', p.sr, ⟨w, hf⟩, fun d δ2 h2 v H2 Z2 FS2 A p2 => ok d δ2 h2 v H2 Z2 FS2 A (p.b.thenE p2), fun x δ2 h2 c dd H2 Z2 FS2 p2 => ex x δ2 h2 c dd H2 Z2 FS2 (p.b.thenX p2)⟩
      | false =>
        rw [if_neg Bool.false_ne_true]
        rw [if_neg Bool.false_ne_true] at ok
        exact ok _ δ' rfl _ H' Z' FS' _ ((p.b.bl false).weak fun h => (Bool.and_eq_true_iff.mp h).1)
    | _ => cases hf
  · rw [h] at ex
    exact ex x δ' rfl
theorem rd_orV {v1 q1 q2 : Bool} {f g : DS → Option ER} {ta tb : TE} (ha : ∀ σ H Q, rdE G W v1 q1 f σ H Q → ta σ H Q) (hb : ∀ σ H Q, rdE G W false q2 g σ H Q → tb σ H Q) : ∀ σ H Q, rdE G W false (q1 && q2) (evOrV f g) σ H Q → tOrV ta tb σ H Q := by
  rintro σ H Q ⟨δ, Z, S, FS, sr, ⟨w, hf⟩, ok, ex⟩
  unfold evOrV at hf ok ex
  refine ha σ H _ ⟨δ, Z, S, FS, sr, ?_, fun d δ' h v H' Z' FS' A p => ?_, fun x δ' h => ?_⟩
  · cases q : f δ with
    | none => rw [q] at hf; cases hf
    | some w => exact ⟨w, rfl⟩
  · rw [h] at hf ok ex
    simp only at hf ok ex
    cases d with
    | bl b =>
      refine ⟨b, p.rep.blV, ?_⟩
      simp only [blD] at hf ok ex
      cases b with
      | false =>
        rw [if_neg Bool.false_ne_true]
        rw [if_neg Bool.false_ne_true] at hf ok ex
        exact hb σ H' _ ⟨δ', Z', S, FS', p.sr, ⟨w, hf⟩, fun d δ2 h2 v H2 Z2 FS2 A p2 => ok d δ2 h2 v H2 Z2 FS2 A (p.b.thenE p2), fun x δ2 h2 c dd H2 Z2 FS2 p2 => ex x δ2 h2 c dd H2 Z2 FS2 (p.b.thenX p2)⟩
      | true =>
        rw [if_pos rfl]
        rw [if_pos rfl] at ok
        exact ok _ δ' rfl _ H' Z' FS' _ ((p.b.bl true).weak fun h => (Bool.and_eq_true_iff.mp h).1)
    | _ => cases hf
  · rw [h] at ex
    exact ex x δ' rfl
theorem rd_notV {v1 q1 : Bool} {f : DS → Option ER} {ta : TE} (ha : ∀ σ H Q, rdE G W v1 q1 f σ H Q → ta σ H Q) : ∀ σ H Q, rdE G W false q1 (evNotV f) σ H Q → tNotV ta σ H Q := by
  rintro σ H Q ⟨δ, Z, S, FS, sr, ⟨w, hf⟩, ok, ex⟩
  unfold evNotV at hf ok ex
  refine ha σ H _ ⟨δ, Z, S, FS, sr, ?_, fun d δ' h v H' Z' FS' A p => ?_, fun x δ' h => ?_⟩
  · cases q : f δ with
    | none => rw [q] at hf; cases hf
    | some w => exact ⟨w, rfl⟩
  · rw [h] at hf ok
    simp only at hf ok
    cases d with
    | bl b => exact ⟨b, p.rep.blV, ok _ δ' rfl _ H' Z' FS' _ (p.b.bl (!b))⟩
    | _ => cases hf
  · rw [h] at ex
    exact ex x δ' rfl
/-- a value with a fact of it -/
theorem rd_guard {vw qt : Bool} {c : D → Bool} {P : V → Hp → Prop} {f : DS → Option ER} {te : TE} (hP : ∀ Z S H d v A, Rep G Z S H d v A → c d = true → P v H) (ha : ∀ σ H Q, rdE G W vw qt f σ H Q → te σ H Q) :
    ∀ σ H Q, rdE G W vw qt (evGuard c f) σ H Q → te σ H fun x H1 => P x H1 ∧ Q x H1 := by
  rintro σ H Q ⟨δ, Z, S, FS, sr, ⟨w, hf⟩, ok, ex⟩
  unfold evGuard at hf ok ex
  refine ha σ H _ ⟨δ, Z, S, FS, sr, ?_, fun d δ' h v H' Z' FS' A p => ?_, fun x δ' h => ?_⟩
  · cases q : f δ with
    | none => rw [q] at hf; cases hf
    | some w => exact ⟨w, rfl⟩
  · rw [h] at hf ok
    simp only at hf ok
    by_cases hc : c d = true
    · rw [if_pos hc] at ok
      exact ⟨hP Z' (Own S) H' d v A p.rep hc, ok d δ' rfl v H' Z' FS' A p⟩
    · rw [if_neg hc] at hf; cases hf
  · rw [h] at ex
    exact ex x δ' rfl
end
end PD
/-! P, part 7: statements. -/
namespace PD
open PySem L2

inductive Out where
  | nx | bk | ct
  | rt (d : D)
  | ex (x : Xc)
abbrev ES := Out × DS

/-- the slots of pn hold what they held -/
def Pin (pn : List Nat) (σ σ' : St) : Prop := σ'.length = σ.length ∧ ∀ i ∈ pn, σ'[i]? = σ[i]?
theorem Pin.refl (pn : List Nat) (σ : St) : Pin pn σ σ := ⟨rfl, fun _ _ => rfl⟩
theorem Pin.trans {pn : List Nat} {a b c : St} (h : Pin pn a b) (k : Pin pn b c) : Pin pn a c := ⟨k.1.trans h.1, fun i m => (k.2 i m).trans (h.2 i m)⟩
structure PostS (G : GC) (S : Nat → AS) (pn : List Nat) (σ : St) (H : Hp) (Z : AS) (FS : Nat → AS) (δ' : DS) (σ' : St) (H' : Hp) (Z' : AS) (FS' : Nat → AS) : Prop where
  sr : SR G Z' S H' δ' σ' FS'
  st : Step H Z (Own FS) H' Z' (Own FS')
  pn : Pin pn σ σ'
structure PostR (G : GC) (S : Nat → AS) (pn : List Nat) (σ : St) (H : Hp) (Z : AS) (FS : Nat → AS) (d : D) (δ' : DS) (v : V) (σ' : St) (H' : Hp) (Z' : AS) (FS' : Nat → AS) (A : AS) : Prop where
  sr : SR G Z' S H' δ' σ' FS'
  st : Step H Z (Own FS) H' Z' (fun x => Own FS' x ∨ A x)
  vl : Rep G Z' S0 H' d v A ∧ ∀ x, A x → ¬ Z' x ∧ ¬ Own S x ∧ ¬ Own FS' x
  pn : Pin pn σ σ'
structure PostQ (G : GC) (S : Nat → AS) (pn : List Nat) (σ : St) (H : Hp) (Z : AS) (FS : Nat → AS) (x : Xc) (δ' : DS) (c : Value) (dd : Option Addr) (σ' : St) (H' : Hp) (Z' : AS) (FS' : Nat → AS) : Prop where
  sr : SR G Z' S H' δ' σ' FS'
  st : Step H Z (Own FS) H' Z' (Own FS')
  xr : XR G Z' H' x c dd
  pn : Pin pn σ σ'
/-- what is wanted behind a statement, by its outcome -/
structure WantS (G : GC) (W : WX) (S : Nat → AS) (pn : List Nat) (D : Ends) (σ : St) (H : Hp) (Z : AS) (FS : Nat → AS) (r : ES) : Prop where
  nx : ∀ δ', r = (.nx, δ') → ∀ σ' H' Z' FS', PostS G S pn σ H Z FS δ' σ' H' Z' FS' → D.nx σ' H'
  bk : ∀ δ', r = (.bk, δ') → ∀ σ' H' Z' FS', PostS G S pn σ H Z FS δ' σ' H' Z' FS' → D.bk σ' H'
  ct : ∀ δ', r = (.ct, δ') → ∀ σ' H' Z' FS', PostS G S pn σ H Z FS δ' σ' H' Z' FS' → D.ct σ' H'
  rt : ∀ d δ', r = (.rt d, δ') → ∀ v σ' H' Z' FS' A, PostR G S pn σ H Z FS d δ' v σ' H' Z' FS' A → D.rt v H'
  ex : ∀ x δ', r = (.ex x, δ') → ∀ c dd σ' H' Z' FS', PostQ G S pn σ H Z FS x δ' c dd σ' H' Z' FS' → W c dd σ' H'
def rdS (G : GC) (W : WX) (n : Nat) (pn : List Nat) (f : DS → Option ES) : TS := fun D σ H => σ.length = n ∧ ∃ δ Z S FS, SR G Z S H δ σ FS ∧ ∃ r, f δ = some r ∧ WantS G W S pn D σ H Z FS r

def evNx : DS → Option ES := fun δ => some (.nx, δ)
def evSeq (f g : DS → Option ES) : DS → Option ES := fun δ => match f δ with
  | some (.nx, δ') => g δ'
  | r => r
def evDrop (f : DS → Option ER) : DS → Option ES := fun δ => match f δ with
  | none => none
  | some (.ex x, δ') => some (.ex x, δ')
  | some (.ok _, δ') => some (.nx, δ')
def evRet (f : DS → Option ER) : DS → Option ES := fun δ => match f δ with
  | none => none
  | some (.ex x, δ') => some (.ex x, δ')
  | some (.ok d, δ') => some (.rt d, δ')
def evAsg (i : Nat) (f : DS → Option ER) : DS → Option ES := fun δ => match f δ with
  | none => none
  | some (.ex x, δ') => some (.ex x, δ')
  | some (.ok d, δ') => some (.nx, δ'.set i (some d))
def evIfS (t : DS → Option EB) (f g : DS → Option ES) : DS → Option ES := fun δ => match t δ with
  | none => none
  | some (.ex x, δ') => some (.ex x, δ')
  | some (.ok b, δ') => if b = true then f δ' else g δ'
def evRetN : DS → Option ES := fun δ => some (.rt .non, δ)
def evBrk : DS → Option ES := fun δ => some (.bk, δ)
def evCnt : DS → Option ES := fun δ => some (.ct, δ)

section
variable {G : GC} {W : WX} {X : Cx} {n : Nat} {pn : List Nat}
theorem PostS.refl {S : Nat → AS} {σ : St} {H : Hp} {Z : AS} {FS : Nat → AS} {δ : DS} (r : SR G Z S H δ σ FS) : PostS G S pn σ H Z FS δ σ H Z FS := ⟨r, Step.refl _ _ _, Pin.refl _ _⟩
theorem PostS.thenS {S : Nat → AS} {σ σ1 σ2 : St} {H H1 H2 : Hp} {Z Z1 Z2 : AS} {FS FS1 FS2 : Nat → AS} {δ1 δ2 : DS} (a : PostS G S pn σ H Z FS δ1 σ1 H1 Z1 FS1) (b : PostS G S pn σ1 H1 Z1 FS1 δ2 σ2 H2 Z2 FS2) : PostS G S pn σ H Z FS δ2 σ2 H2 Z2 FS2 := ⟨b.sr, a.st.trans b.st, a.pn.trans b.pn⟩
theorem PostS.thenR {S : Nat → AS} {σ σ1 σ2 : St} {H H1 H2 : Hp} {Z Z1 Z2 : AS} {FS FS1 FS2 : Nat → AS} {δ1 δ2 : DS} {d : D} {v : V} {A : AS} (a : PostS G S pn σ H Z FS δ1 σ1 H1 Z1 FS1) (b : PostR G S pn σ1 H1 Z1 FS1 d δ2 v σ2 H2 Z2 FS2 A) : PostR G S pn σ H Z FS d δ2 v σ2 H2 Z2 FS2 A := ⟨b.sr, a.st.trans b.st, b.vl, a.pn.trans b.pn⟩
theorem PostS.thenQ {S : Nat → AS} {σ σ1 σ2 : St} {H H1 H2 : Hp} {Z Z1 Z2 : AS} {FS FS1 FS2 : Nat → AS} {δ1 δ2 : DS} {x : Xc} {c : Value} {dd : Option Addr} (a : PostS G S pn σ H Z FS δ1 σ1 H1 Z1 FS1) (b : PostQ G S pn σ1 H1 Z1 FS1 x δ2 c dd σ2 H2 Z2 FS2) : PostQ G S pn σ H Z FS x δ2 c dd σ2 H2 Z2 FS2 := ⟨b.sr, a.st.trans b.st, b.xr, a.pn.trans b.pn⟩
/-- the wants of what follows, seen from ahead -/
theorem WantS.back {S : Nat → AS} {D : Ends} {σ σ1 : St} {H H1 : Hp} {Z Z1 : AS} {FS FS1 : Nat → AS} {δ1 : DS} {r : ES} (w : WantS G W S pn D σ H Z FS r) (a : PostS G S pn σ H Z FS δ1 σ1 H1 Z1 FS1) : WantS G W S pn D σ1 H1 Z1 FS1 r :=
  ⟨fun δ' e σ' H' Z' FS' p => w.nx δ' e σ' H' Z' FS' (a.thenS p), fun δ' e σ' H' Z' FS' p => w.bk δ' e σ' H' Z' FS' (a.thenS p), fun δ' e σ' H' Z' FS' p => w.ct δ' e σ' H' Z' FS' (a.thenS p),
    fun d δ' e v σ' H' Z' FS' A p => w.rt d δ' e v σ' H' Z' FS' A (a.thenR p), fun x δ' e c dd σ' H' Z' FS' p => w.ex x δ' e c dd σ' H' Z' FS' (a.thenQ p)⟩
theorem PostB.s {S : Nat → AS} {q : Bool} {σ : St} {H H' : Hp} {Z Z' : AS} {FS FS' : Nat → AS} {δ' : DS} (p : PostB G S q σ H Z FS δ' H' Z' FS') : PostS G S pn σ H Z FS δ' σ H' Z' FS' := ⟨p.sr, p.st, Pin.refl _ _⟩
theorem PostX.q {S : Nat → AS} {σ : St} {H H' : Hp} {Z Z' : AS} {FS FS' : Nat → AS} {δ' : DS} {x : Xc} {c : Value} {dd : Option Addr} (p : PostX G S σ H Z FS x δ' c dd H' Z' FS') : PostQ G S pn σ H Z FS x δ' c dd σ H' Z' FS' := ⟨p.sr, p.st, p.xr, Pin.refl _ _⟩
theorem rd_nx : ∀ D σ H, rdS G W n pn evNx D σ H → tNext D σ H := by
  rintro D σ H ⟨hn, δ, Z, S, FS, sr, r, hr, w⟩
  cases hr
  exact w.nx δ rfl σ H Z FS (.refl sr)
theorem rd_seq {f g : DS → Option ES} {t u : TS} (ht : ∀ D σ H, rdS G W n pn f D σ H → t D σ H) (hu : ∀ D σ H, rdS G W n pn g D σ H → u D σ H) : ∀ D σ H, rdS G W n pn (evSeq f g) D σ H → tSeq t u D σ H := by
  rintro D σ H ⟨hn, δ, Z, S, FS, sr, r, hr, w⟩
  unfold evSeq at hr
  cases e : f δ with
  | none => rw [e] at hr; cases hr
  | some q =>
    obtain ⟨o, δ1⟩ := q
    rw [e] at hr
    refine ht { D with nx := u D } σ H ⟨hn, δ, Z, S, FS, sr, (o, δ1), e, ?_⟩
    cases o with
    | nx =>
      refine ⟨fun δ' e' σ' H' Z' FS' p => ?_, fun _ e' => (by cases e'), fun _ e' => (by cases e'), fun _ _ e' => (by cases e'), fun _ _ e' => (by cases e')⟩
      cases e'
      exact hu D σ' H' ⟨p.pn.1.trans hn, _, Z', S, FS', p.sr, r, hr, w.back p⟩
    | bk => cases hr; exact ⟨fun _ e' => (by cases e'), w.bk, w.ct, w.rt, w.ex⟩
    | ct => cases hr; exact ⟨fun _ e' => (by cases e'), w.bk, w.ct, w.rt, w.ex⟩
    | rt d => cases hr; exact ⟨fun _ e' => (by cases e'), w.bk, w.ct, w.rt, w.ex⟩
    | ex x => cases hr; exact ⟨fun _ e' => (by cases e'), w.bk, w.ct, w.rt, w.ex⟩
theorem rd_drop {vw qt : Bool} {f : DS → Option ER} {te : TE} (ha : ∀ σ H Q, rdE G W vw qt f σ H Q → te σ H Q) : ∀ D σ H, rdS G W n pn (evDrop f) D σ H → tDrop te D σ H := by
  rintro D σ H ⟨hn, δ, Z, S, FS, sr, r, hr, w⟩
  unfold evDrop at hr
  refine ha σ H _ ⟨δ, Z, S, FS, sr, ?_, fun d δ' h v H' Z' FS' A p => ?_, fun x δ' h c dd H' Z' FS' p => ?_⟩
  · cases q : f δ with
    | none => rw [q] at hr; cases hr
    | some w => exact ⟨w, rfl⟩
  · rw [h] at hr; cases hr
    exact w.nx _ rfl σ H' Z' FS' p.b.s
  · rw [h] at hr; cases hr
    exact w.ex x _ rfl c dd σ H' Z' FS' p.q
theorem rd_ret {qt : Bool} {f : DS → Option ER} {te : TE} (ha : ∀ σ H Q, rdE G W false qt f σ H Q → te σ H Q) : ∀ D σ H, rdS G W n pn (evRet f) D σ H → tRet te D σ H := by
  rintro D σ H ⟨hn, δ, Z, S, FS, sr, r, hr, w⟩
  unfold evRet at hr
  refine ha σ H _ ⟨δ, Z, S, FS, sr, ?_, fun d δ' h v H' Z' FS' A p => ?_, fun x δ' h c dd H' Z' FS' p => ?_⟩
  · cases q : f δ with
    | none => rw [q] at hr; cases hr
    | some w => exact ⟨w, rfl⟩
  · rw [h] at hr; cases hr
    have vl := p.vl
    rw [if_neg Bool.false_ne_true] at vl
    exact w.rt d _ rfl v σ H' Z' FS' A ⟨p.sr, p.st, vl, Pin.refl _ _⟩
  · rw [h] at hr; cases hr
    exact w.ex x _ rfl c dd σ H' Z' FS' p.q
theorem rd_retN : ∀ D σ H, rdS G W n pn evRetN D σ H → tRetN D σ H := by
  rintro D σ H ⟨hn, δ, Z, S, FS, sr, r, hr, w⟩
  cases hr
  exact w.rt .non _ rfl .non σ H Z FS S0 ⟨sr, Step.quiet fun x h => h.elim, ⟨.fz .non fun _ z => z, fun x z => z.elim⟩, Pin.refl _ _⟩
theorem rd_brk : ∀ D σ H, rdS G W n pn evBrk D σ H → tBreak D σ H := by
  rintro D σ H ⟨hn, δ, Z, S, FS, sr, r, hr, w⟩
  cases hr
  exact w.bk δ rfl σ H Z FS (.refl sr)
theorem rd_cnt : ∀ D σ H, rdS G W n pn evCnt D σ H → tCont D σ H := by
  rintro D σ H ⟨hn, δ, Z, S, FS, sr, r, hr, w⟩
  cases hr
  exact w.ct δ rfl σ H Z FS (.refl sr)
/-- a slot gets a value of its own -/
theorem SR.put {Z : AS} {S : Nat → AS} {H : Hp} {δ : DS} {σ : St} {FS : Nat → AS} {i : Nat} {d : D} {v : V} {A : AS} (r : SR G Z S H δ σ FS) (hi : i < σ.length) (rp : Rep G Z S0 H d v A) (hA : ∀ x, A x → ¬ Z x ∧ ¬ Own S x ∧ ¬ Own FS x) :
    SR G Z S H (δ.set i (some d)) (σ.set i (some v)) (fun j x => (j = i ∧ A x) ∨ (j ≠ i ∧ FS j x)) where
  len := by rw [List.length_set, List.length_set]; exact r.len
  slot := fun j w ew => by
    rcases set_at ew with ⟨hj, ew2⟩ | ⟨hj, ew2⟩
    · cases ew2
      subst hj
      exact ⟨v, by rw [List.getElem?_set_self hi], rp.s0.congr fun x => ⟨fun q => q.elim (fun z => z.2) fun z => (z.1 rfl).elim, fun q => .inl ⟨rfl, q⟩⟩⟩
    · obtain ⟨u, eu, rp'⟩ := r.slot j w ew2
      exact ⟨u, by rw [List.getElem?_set_ne (Ne.symm hj)]; exact eu, rp'.congr fun x => ⟨fun q => q.elim (fun z => (hj z.1).elim) fun z => z.2, fun q => .inr ⟨hj, q⟩⟩⟩
  empt := fun j h x q => by
    have hl : i < δ.length := by rw [r.len]; exact hi
    rcases q with ⟨hj, q⟩ | ⟨hj, q⟩
    · subst hj
      exact h d (by rw [List.getElem?_set_self hl])
    · refine r.empt j (fun w ew => h w ?_) x q
      rw [List.getElem?_set_ne (Ne.symm hj)]; exact ew
  disj := fun j k x a b => by
    rcases a with ⟨hj, a⟩ | ⟨hj, a⟩ <;> rcases b with ⟨hk, b⟩ | ⟨hk, b⟩
    · rw [hj, hk]
    · exact ((hA x a).2.2 ⟨k, b⟩).elim
    · exact ((hA x b).2.2 ⟨j, a⟩).elim
    · exact r.disj j k x a b
  zs := r.zs
  ss := r.ss
  nz := fun x ⟨j, q⟩ => by
    rcases q with ⟨_, q⟩ | ⟨_, q⟩
    · exact ⟨(hA x q).1, (hA x q).2.1⟩
    · exact r.nz x ⟨j, q⟩
theorem own_put {FS : Nat → AS} {i : Nat} {A : AS} : ∀ x, Own (fun j x => (j = i ∧ A x) ∨ (j ≠ i ∧ FS j x)) x → Own FS x ∨ A x := fun x ⟨j, q⟩ => q.elim (fun z => .inr z.2) fun z => .inl ⟨j, z.2⟩
/-- name = value -/
theorem rd_asg {qt : Bool} {i : Nat} {f : DS → Option ER} {te : TE} (hi : i < n) (hp : i ∉ pn) (ha : ∀ σ H Q, rdE G W false qt f σ H Q → te σ H Q) : ∀ D σ H, rdS G W n pn (evAsg i f) D σ H → tAsg te (gName i) D σ H := by
  rintro D σ H ⟨hn, δ, Z, S, FS, sr, r, hr, w⟩
  unfold evAsg at hr
  refine ha σ H _ ⟨δ, Z, S, FS, sr, ?_, fun d δ' h v H' Z' FS' A p => ?_, fun x δ' h c dd H' Z' FS' p => ?_⟩
  · cases q : f δ with
    | none => rw [q] at hr; cases hr
    | some w => exact ⟨w, rfl⟩
  · rw [h] at hr; cases hr
    have vl := p.vl
    rw [if_neg Bool.false_ne_true] at vl
    refine w.nx _ rfl _ H' Z' _ ⟨p.sr.put (by omega) vl.1 vl.2, p.st.sub own_put, by rw [List.length_set], fun j hj => ?_⟩
    rw [List.getElem?_set_ne]
    rintro rfl
    exact hp hj
  · rw [h] at hr; cases hr
    exact w.ex x _ rfl c dd σ H' Z' FS' p.q
theorem rd_ifS {q1 : Bool} {t : DS → Option EB} {f g : DS → Option ES} {tt : TT} {ta tb : TS} (ht : ∀ σ H Q, rdT G W q1 t σ H Q → tt σ H Q) (ha : ∀ D σ H, rdS G W n pn f D σ H → ta D σ H) (hb : ∀ D σ H, rdS G W n pn g D σ H → tb D σ H) :
    ∀ D σ H, rdS G W n pn (evIfS t f g) D σ H → tIfS tt ta tb D σ H := by
  rintro D σ H ⟨hn, δ, Z, S, FS, sr, r, hr, w⟩
  unfold evIfS at hr
  refine ht σ H _ ⟨δ, Z, S, FS, sr, ?_, fun b δ' h H' Z' FS' p => ?_, fun x δ' h c dd H' Z' FS' p => ?_⟩
  · cases q : t δ with
    | none => rw [q] at hr; cases hr
    | some w => exact ⟨w, rfl⟩
  · rw [h] at hr
    simp only at hr
    cases b with
    | true =>
      rw [if_pos rfl]
      rw [if_pos rfl] at hr
      exact ha D σ H' ⟨hn, δ', Z', S, FS', p.sr, r, hr, w.back p.s⟩
    | false =>
      rw [if_neg Bool.false_ne_true]
      rw [if_neg Bool.false_ne_true] at hr
      exact hb D σ H' ⟨hn, δ', Z', S, FS', p.sr, r, hr, w.back p.s⟩
  · rw [h] at hr; cases hr
    exact w.ex x _ rfl c dd σ H' Z' FS' p.q
end
end PD
/-! P, part 8: loops, targets, lists that change. -/
namespace PD
open PySem L2

/-- what a loop walks: items, by an iterator J, as long as Z0 and T stand -/
structure Src (G : GC) (J : It) (items : List D) (Z0 T : AS) (H0 : Hp) : Prop where
  go : ∀ (Z : AS) H i, (∀ a, Z0 a → Z a) → (∀ a, (Z0 a ∨ T a) → ∀ o, H0 a = some o → H a = some o) → i < items.length → J.go i H
  stop : ∀ (Z : AS) H, (∀ a, Z0 a → Z a) → (∀ a, (Z0 a ∨ T a) → ∀ o, H0 a = some o → H a = some o) → J.stop items.length H
  yld : ∀ (Z : AS) H i x H', (∀ a, Z0 a → Z a) → (∀ a, (Z0 a ∨ T a) → ∀ o, H0 a = some o → H a = some o) → J.yld i H x H' → H' = H ∧ ∀ d, items[i]? = some d → RepF G Z H d x
/-- a target takes a frozen value -/
def TgOk (G : GC) (n : Nat) (pn : List Nat) (tg : D → DS → Option DS) (g : TG) : Prop :=
  ∀ d v Z S H δ σ FS δ', σ.length = n → SR G Z S H δ σ FS → RepF G Z H d v → tg d δ = some δ' → ∀ Q : St → Hp → Prop, (∀ σ' FS', SR G Z S H δ' σ' FS' → (∀ x, Own FS' x → Own FS x) → Pin pn σ σ' → Q σ' H) → g v σ H Q
def tgName (i : Nat) : D → DS → Option DS := fun d δ => some (δ.set i (some d))
/-- a tuple's parts to names -/
def tgNames : List Nat → List D → DS → Option DS
  | [], [], δ => some δ
  | i :: is, d :: ds, δ => tgNames is ds (δ.set i (some d))
  | _, _, _ => none
def tgTup (is : List Nat) : D → DS → Option DS := fun d δ => match d with
  | .tup ds => tgNames is ds δ
  | _ => none
def gNames : List Nat → TGs
  | [] => gNil
  | i :: is => gCons (gName i) (gNames is)
def evForL (tg : D → DS → Option DS) (body : DS → Option ES) : List D → DS → Option ES
  | [], δ => some (.nx, δ)
  | d :: r, δ => match tg d δ with
    | none => none
    | some δ1 => match body δ1 with
      | none => none
      | some (.nx, δ2) => evForL tg body r δ2
      | some (.ct, δ2) => evForL tg body r δ2
      | some (.bk, δ2) => some (.nx, δ2)
      | some (.rt v, δ2) => some (.rt v, δ2)
      | some (.ex x, δ2) => some (.ex x, δ2)
def evWhl (t : DS → Option EB) (body : DS → Option ES) : Nat → DS → Option ES
  | 0, _ => none
  | k + 1, δ => match t δ with
    | none => none
    | some (.ex x, δ1) => some (.ex x, δ1)
    | some (.ok b, δ1) => if b = true then match body δ1 with
        | none => none
        | some (.nx, δ2) => evWhl t body k δ2
        | some (.ct, δ2) => evWhl t body k δ2
        | some (.bk, δ2) => some (.nx, δ2)
        | some (.rt v, δ2) => some (.rt v, δ2)
        | some (.ex x, δ2) => some (.ex x, δ2)
      else some (.nx, δ1)
section
variable {G : GC} {W : WX} {X : Cx} {n : Nat} {pn : List Nat}
theorem tg_name {i : Nat} (hi : i < n) (hp : i ∉ pn) : TgOk G n pn (tgName i) (gName i) := by
  intro d v Z S H δ σ FS δ' hn sr rf e Q q
  cases e
  refine q _ _ (sr.put (by omega) (.fz (A := S0) rf fun _ z => z) fun x z => z.elim) (fun x z => (own_put x z).elim id fun z => z.elim) ⟨by rw [List.length_set], fun j hj => ?_⟩
  rw [List.getElem?_set_ne]
  rintro rfl
  exact hp hj
theorem tg_names : ∀ (is : List Nat), (∀ i ∈ is, i < n ∧ i ∉ pn) → ∀ ds vs Z S H δ σ FS δ', σ.length = n → SR G Z S H δ σ FS → ds.length = vs.length → (∀ (j : Nat) d v, ds[j]? = some d → vs[j]? = some v → RepF G Z H d v) → tgNames is ds δ = some δ' →
    ∀ Q : St → Hp → Prop, (∀ σ' FS', SR G Z S H δ' σ' FS' → (∀ x, Own FS' x → Own FS x) → Pin pn σ σ' → Q σ' H) → gNames is vs σ H Q
  | [], _, [], [], _, _, _, _, _, _, _, _, sr, _, _, e, Q, q => by
    cases e
    exact ⟨rfl, q _ _ sr (fun _ z => z) (Pin.refl _ _)⟩
  | i :: is, h, d :: ds, v :: vs, Z, S, H, δ, σ, FS, δ', hn, sr, hl, hr, e, Q, q => by
    refine ⟨v, vs, rfl, ?_⟩
    have h1 := h i List.mem_cons_self
    refine tg_name h1.1 h1.2 d v Z S H δ σ FS _ hn sr (hr 0 d v rfl rfl) rfl _ fun σ1 FS1 sr1 o1 p1 => ?_
    exact tg_names is (fun j hj => h j (List.mem_cons_of_mem _ hj)) ds vs Z S H _ σ1 FS1 δ' (p1.1.trans hn) sr1 (by simpa using hl) (fun j d v e1 e2 => hr (j + 1) d v (by simpa using e1) (by simpa using e2)) e Q
      fun σ' FS' a b c => q σ' FS' a (fun x z => o1 x (b x z)) (p1.trans c)
  | [], _, _ :: _, _, _, _, _, _, _, _, _, _, _, _, _, e, _, _ => by simp [tgNames] at e
  | _ :: _, _, [], _, _, _, _, _, _, _, _, _, _, _, _, e, _, _ => by simp [tgNames] at e
  | _ :: _, _, _ :: _, [], _, _, _, _, _, _, _, _, _, hl, _, _, _, _ => by simp at hl
  | [], _, [], _ :: _, _, _, _, _, _, _, _, _, _, hl, _, _, _, _ => by simp at hl
theorem tg_tup {is : List Nat} (h : ∀ i ∈ is, i < n ∧ i ∉ pn) : TgOk G n pn (tgTup is) (gTup G.K is.length (gNames is)) := by
  intro d v Z S H δ σ FS δ' hn sr rf e Q q
  cases d with
  | tup ds =>
    cases rf with
    | tup hs hl he =>
      rename_i a vs
      have len : ∀ (is : List Nat) (ds : List D) (δ δ' : DS), tgNames is ds δ = some δ' → is.length = ds.length := by
        intro is
        induction is with
        | nil => intro ds δ δ' e; cases ds with
          | nil => rfl
          | cons _ _ => simp [tgNames] at e
        | cons i is ih => intro ds δ δ' e; cases ds with
          | nil => simp [tgNames] at e
          | cons d ds => simp only [List.length_cons]; rw [ih ds _ _ e]
      refine ⟨a, vs, rfl, hs.imp (fun z => z.2) id, by rw [← hl, len is ds _ _ e], ?_⟩
      exact tg_names is h ds vs Z S H δ σ FS δ' hn sr hl he e Q q
  | _ => cases e
/-- the loop, by its items -/
theorem rd_loop {J : It} {items : List D} {Z0 T : AS} {H0 : Hp} {tg : D → DS → Option DS} {body : DS → Option ES} {g : TG} {tb : TS} (src : Src G J items Z0 T H0) (htg : TgOk G n pn tg g)
    (hb : ∀ D σ H, rdS G W n pn body D σ H → tb D σ H) {D : Ends} {δ0 : DS} {σ0 : St} {H1 : Hp} {Z1 : AS} {S FS1 : Nat → AS} {r : ES} (hn : σ0.length = n) (sr : SR G Z1 S H1 δ0 σ0 FS1) (hz : ∀ a, Z0 a → Z1 a)
    (hk : ∀ a, (Z0 a ∨ T a) → ∀ o, H0 a = some o → H1 a = some o) (htr : ∀ a, T a → ∃ o, H1 a = some o) (hto : ∀ a, T a → ¬ Own FS1 a) (hr : evForL tg body items δ0 = some r) (w : WantS G W S pn D σ0 H1 Z1 FS1 r) :
    ∃ Wn : Nat → Nat → St → Hp → Prop, (∃ m, Wn 0 m σ0 H1) ∧ ∀ i m σ H, Wn i m σ H →
      (J.stop i H ∧ D.nx σ H) ∨ (J.go i H ∧ ∃ N : St → Hp → Prop, (∀ σ' H', N σ' H' → ∃ m', m' < m ∧ Wn (i + 1) m' σ' H') ∧ ∀ x H', J.yld i H x H' → g x σ H' fun σ2 H2 => tb { D with nx := N, ct := N, bk := D.nx } σ2 H2) := by
  refine ⟨fun i m σ H => m + i = items.length ∧ σ.length = n ∧ ∃ δ Z FS, SR G Z S H δ σ FS ∧ (∀ a, Z0 a → Z a) ∧ (∀ a, (Z0 a ∨ T a) → ∀ o, H0 a = some o → H a = some o) ∧ (∀ a, T a → ∃ o, H a = some o) ∧ (∀ a, T a → ¬ Own FS a) ∧
    evForL tg body (items.drop i) δ = some r ∧ WantS G W S pn D σ H Z FS r, ⟨items.length, rfl, hn, δ0, Z1, FS1, sr, hz, hk, htr, hto, by simpa using hr, w⟩, ?_⟩
  rintro i m σ H ⟨hm, hn, δ, Z, FS, sr, hz, hk, htr, hto, hr, w⟩
  by_cases hlt : i < items.length
  · refine .inr ⟨src.go Z H i hz hk hlt, _, fun σ' H' q => ⟨m - 1, by omega, q⟩, fun x H' y => ?_⟩
    obtain ⟨rfl, yd⟩ := src.yld Z H i x H' hz hk y
    have ei : items[i]? = some items[i] := by simp [hlt]
    rw [List.drop_eq_getElem_cons hlt, evForL] at hr
    cases e1 : tg items[i] δ with
    | none => rw [e1] at hr; cases hr
    | some δ1 =>
      rw [e1] at hr
      simp only at hr
      refine htg _ x Z S H' δ σ FS δ1 hn sr (yd _ ei) e1 _ fun σ1 FS1 sr1 o1 p1 => ?_
      have a1 : PostS G S pn σ H' Z FS δ1 σ1 H' Z FS1 := ⟨sr1, (Step.refl H' Z (Own FS)).sub o1, p1⟩
      cases e2 : body δ1 with
      | none => rw [e2] at hr; cases hr
      | some q =>
        obtain ⟨o, δ2⟩ := q
        rw [e2] at hr
        refine hb _ σ1 H' ⟨p1.1.trans hn, δ1, Z, S, FS1, sr1, (o, δ2), e2, ?_⟩
        have next : ∀ {σ2 : St} {H2 : Hp} {Z2 : AS} {FS2 : Nat → AS}, PostS G S pn σ1 H' Z FS1 δ2 σ2 H2 Z2 FS2 → evForL tg body (items.drop (i + 1)) δ2 = some r →
            (m - 1 + (i + 1) = items.length ∧ σ2.length = n ∧ ∃ δ Z FS, SR G Z S H2 δ σ2 FS ∧ (∀ a, Z0 a → Z a) ∧ (∀ a, (Z0 a ∨ T a) → ∀ o, H0 a = some o → H2 a = some o) ∧ (∀ a, T a → ∃ o, H2 a = some o) ∧ (∀ a, T a → ¬ Own FS a) ∧
              evForL tg body (items.drop (i + 1)) δ = some r ∧ WantS G W S pn D σ2 H2 Z FS r) := fun {σ2 H2 Z2 FS2} p hr2 => by
          have st := a1.st.trans p.st
          refine ⟨by omega, (p.pn.1.trans p1.1).trans hn, δ2, Z2, FS2, p.sr, fun a z => st.zin a (hz a z), fun a z o e => st.keep a o (hk a z o e) fun q => ?_, fun a z => ?_, fun a z q => ?_, hr2, w.back (a1.thenS p)⟩
          · rcases z with z | z
            · exact (sr.nz a q).1 (hz a z)
            · exact hto a z q
          · obtain ⟨o, e⟩ := htr a z; exact st.there a o e
          · rcases st.pnew a q with q | q
            · exact hto a z q
            · obtain ⟨o, e⟩ := htr a z; rw [q] at e; cases e
        cases o with
        | nx =>
          exact ⟨fun δ' e' σ2 H2 Z2 FS2 p => by cases e'; exact next p hr, fun _ e' => (by cases e'), fun _ e' => (by cases e'), fun _ _ e' => (by cases e'), fun _ _ e' => (by cases e')⟩
        | ct =>
          exact ⟨fun _ e' => (by cases e'), fun _ e' => (by cases e'), fun δ' e' σ2 H2 Z2 FS2 p => by cases e'; exact next p hr, fun _ _ e' => (by cases e'), fun _ _ e' => (by cases e')⟩
        | bk =>
          cases hr
          exact ⟨fun _ e' => (by cases e'), fun δ' e' σ2 H2 Z2 FS2 p => by cases e'; exact w.nx _ rfl σ2 H2 Z2 FS2 (a1.thenS p), fun _ e' => (by cases e'), fun _ _ e' => (by cases e'), fun _ _ e' => (by cases e')⟩
        | rt d =>
          cases hr
          exact ⟨fun _ e' => (by cases e'), fun _ e' => (by cases e'), fun _ e' => (by cases e'), fun d' δ' e' v σ2 H2 Z2 FS2 A p => by cases e'; exact w.rt d _ rfl v σ2 H2 Z2 FS2 A (a1.thenR p), fun _ _ e' => (by cases e')⟩
        | ex y =>
          cases hr
          exact ⟨fun _ e' => (by cases e'), fun _ e' => (by cases e'), fun _ e' => (by cases e'), fun _ _ e' => (by cases e'), fun x' δ' e' c dd σ2 H2 Z2 FS2 p => by cases e'; exact w.ex y _ rfl c dd σ2 H2 Z2 FS2 (a1.thenQ p)⟩
  · have ei : i = items.length := by omega
    subst ei
    rw [List.drop_length] at hr
    cases hr
    exact .inl ⟨src.stop Z H hz hk, w.nx δ rfl σ H Z FS (.refl sr)⟩
/-- while -/
theorem rd_whl {qt : Bool} {t : DS → Option EB} {body : DS → Option ES} {tt : TT} {tb : TS} {k0 : Nat} (ht : ∀ σ H Q, rdT G W qt t σ H Q → tt σ H Q) (hb : ∀ D σ H, rdS G W n pn body D σ H → tb D σ H) : ∀ D σ H, rdS G W n pn (evWhl t body k0) D σ H → tWhile tt tb D σ H := by
  rintro D σ0 H0 ⟨hn0, δ0, Z0, S, FS0, sr0, r, hr0, w0⟩
  refine ⟨fun m σ H => σ.length = n ∧ ∃ δ Z FS, SR G Z S H δ σ FS ∧ evWhl t body m δ = some r ∧ WantS G W S pn D σ H Z FS r, ⟨k0, hn0, δ0, Z0, FS0, sr0, hr0, w0⟩, ?_⟩
  rintro m σ H ⟨hn, δ, Z, FS, sr, hr, w⟩
  cases m with
  | zero => cases hr
  | succ k =>
    rw [evWhl] at hr
    refine ht σ H _ ⟨δ, Z, S, FS, sr, ?_, fun b δ1 h H1 Z1 FS1 p => ?_, fun x δ1 h c dd H1 Z1 FS1 p => ?_⟩
    · cases q : t δ with
      | none => rw [q] at hr; cases hr
      | some w => exact ⟨w, rfl⟩
    · rw [h] at hr
      simp only at hr
      have a1 : PostS G S pn σ H Z FS δ1 σ H1 Z1 FS1 := p.s
      cases b with
      | false =>
        rw [if_neg Bool.false_ne_true]
        rw [if_neg Bool.false_ne_true] at hr
        cases hr
        exact w.nx _ rfl σ H1 Z1 FS1 a1
      | true =>
        rw [if_pos rfl]
        rw [if_pos rfl] at hr
        refine ⟨_, fun σ' H' q => ⟨k, Nat.lt_succ_self k, q⟩, ?_⟩
        cases e2 : body δ1 with
        | none => rw [e2] at hr; cases hr
        | some q =>
          obtain ⟨o, δ2⟩ := q
          rw [e2] at hr
          refine hb _ σ H1 ⟨hn, δ1, Z1, S, FS1, p.sr, (o, δ2), e2, ?_⟩
          cases o with
          | nx =>
            exact ⟨fun δ' e' σ2 H2 Z2 FS2 p2 => by cases e'; exact ⟨p2.pn.1.trans hn, δ2, Z2, FS2, p2.sr, hr, w.back (a1.thenS p2)⟩, fun _ e' => (by cases e'), fun _ e' => (by cases e'), fun _ _ e' => (by cases e'), fun _ _ e' => (by cases e')⟩
          | ct =>
            exact ⟨fun _ e' => (by cases e'), fun _ e' => (by cases e'), fun δ' e' σ2 H2 Z2 FS2 p2 => by cases e'; exact ⟨p2.pn.1.trans hn, δ2, Z2, FS2, p2.sr, hr, w.back (a1.thenS p2)⟩, fun _ _ e' => (by cases e'), fun _ _ e' => (by cases e')⟩
          | bk =>
            cases hr
            exact ⟨fun _ e' => (by cases e'), fun δ' e' σ2 H2 Z2 FS2 p => by cases e'; exact w.nx _ rfl σ2 H2 Z2 FS2 (a1.thenS p), fun _ e' => (by cases e'), fun _ _ e' => (by cases e'), fun _ _ e' => (by cases e')⟩
          | rt d =>
            cases hr
            exact ⟨fun _ e' => (by cases e'), fun _ e' => (by cases e'), fun _ e' => (by cases e'), fun d' δ' e' v σ2 H2 Z2 FS2 A p => by cases e'; exact w.rt d _ rfl v σ2 H2 Z2 FS2 A (a1.thenR p), fun _ _ e' => (by cases e')⟩
          | ex y =>
            cases hr
            exact ⟨fun _ e' => (by cases e'), fun _ e' => (by cases e'), fun _ e' => (by cases e'), fun _ _ e' => (by cases e'), fun x' δ' e' c dd σ2 H2 Z2 FS2 p => by cases e'; exact w.ex y _ rfl c dd σ2 H2 Z2 FS2 (a1.thenQ p)⟩
    · rw [h] at hr; cases hr
      exact w.ex x _ rfl c dd σ H1 Z1 FS1 p.q
end
end PD
/-! P, part 9: what is walked; for. -/
namespace PD
open PySem L2

/-- a list, a tuple or a text, whatever comes -/
def iAny (K : PySem.W.Frag) (tl : TE) : TI := fun σ H R => tl σ H fun x H1 => (∃ a, x = .ref a ∧ (∃ xs, SqL K H1 a xs) ∧ R (Itl K a) H1) ∨ (∃ a, x = .ref a ∧ (∃ xs, SqT K H1 a xs) ∧ R (Itt K a) H1) ∨ ∃ z, x = .str z ∧ R (Its z) H1
theorem pi_any {X : Cx} {tg l : Expr} {tl : TE} (hl : PE X l tl) : PI X tg l (iAny X.K tl) := by
  refine ⟨fun pins s σ H R I h => ?_⟩
  refine thn (hl.run pins s σ H _ I h) fun v s1 ⟨x, H1, I1, r1, q1⟩ => ?_
  rcases q1 with ⟨a, e, ⟨xs, hq⟩, q⟩ | ⟨a, e, ⟨xs, hq⟩, q⟩ | ⟨z, e, q⟩
  · subst e
    cases r1
    obtain ⟨its, rv, p, hz⟩ := I1.list hq
    refine wpAny_pyIter_list p.isList ?_
    refine ⟨s1.heap.objs.size, [s1.heap.objs.size], _, _, H1, rfl, I1.kept (t' := s1.toks) fun b o e => Heap.get?_push_of_some _ e, turn_list a _, ⟨_, Heap.get?_push_size _ rfl, rfl, rfl⟩, fun b hb => ?_, q⟩
    have e : b = s1.heap.objs.size := by simpa using hb
    subst e
    exact I1.fpOk (Nat.le_refl _) (I1.hok.fresh (Nat.le_refl _))
  · subst e
    cases r1
    obtain ⟨its, rv, p, hz⟩ := I1.tuple hq
    refine wpAny_pyIter_tuple (show s1.heap.IsTuple a its.toArray from p) ?_
    refine ⟨s1.heap.objs.size, [s1.heap.objs.size], _, _, H1, rfl, I1.kept (t' := s1.toks) fun b o e => Heap.get?_push_of_some _ e, turn_tuple a _, ⟨_, Heap.get?_push_size _ rfl, rfl, rfl⟩, fun b hb => ?_, q⟩
    have e : b = s1.heap.objs.size := by simpa using hb
    subst e
    exact I1.fpOk (Nat.le_refl _) (I1.hok.fresh (Nat.le_refl _))
  · subst e
    obtain ⟨t, rfl⟩ := r1
    cases ha : z.cps.all (· < 128)
    · exact wpAny_pyIter_wide ha (pi_one (tk := s1.toks) I1 _ (turn_str _ z t "str_iterator" (.inr rfl)) ⟨_, Heap.get?_push_size _ rfl, rfl, rfl⟩ q)
    · exact wpAny_pyIter_ascii ha (pi_one (tk := s1.toks) I1 _ (turn_str _ z t "str_ascii_iterator" (.inl rfl)) ⟨_, Heap.get?_push_size _ rfl, rfl, rfl⟩ q)

def signs (z : Str) : List D := z.cps.toList.map fun c => .str ⟨#[c]⟩
/-- the items that a loop goes through -/
def itemsOf : D → Option (List D)
  | .lst m xs => if shal m then some xs else none
  | .tup xs => some xs
  | .str z => some (signs z)
  | _ => none
def owned : D → Bool
  | .lst .o _ => true
  | _ => false
/-- a source: its items, or (a name that owns its list) the name -/
inductive Sr where
  | all (xs : List D)
  | lent (i : Nat) (d : D) (xs : List D)
abbrev EI := RR Sr × DS
/-- rt: the name that the source is; vw: it is a view -/
def evSrc (rt : Option Nat) (vw : Bool) (f : DS → Option ER) : DS → Option EI := fun δ => match f δ with
  | none => none
  | some (.ex x, δ') => some (.ex x, δ')
  | some (.ok d, δ') => match itemsOf d with
    | none => none
    | some xs => if vw && owned d then match rt with
        | none => none
        | some i => some (.ok (.lent i d xs), δ'.set i (some (lend d)))
      else some (.ok (.all xs), δ')
/-- range(n), range(a, b) -/
def intD : D → Option Int
  | .int i => some i
  | _ => none
def upto (lo : Int) (n : Nat) : List D := (List.range n).map fun k => .int (lo + (k : Nat))
def rng1Of : List D → Option (List D)
  | [.int j] => if -(2 ^ 62) ≤ j ∧ j < 2 ^ 62 then some (upto 0 j.toNat) else none
  | _ => none
def rng2Of : List D → Option (List D)
  | [.int i, .int j] => if -(2 ^ 62) ≤ i ∧ i < 2 ^ 62 ∧ -(2 ^ 62) ≤ j ∧ j < 2 ^ 62 then some (upto i (j - i).toNat) else none
  | _ => none
def evRng (g : List D → Option (List D)) (f : DS → Option EA) : DS → Option EI := fun δ => match f δ with
  | none => none
  | some (.ex x, δ') => some (.ex x, δ')
  | some (.ok ds, δ') => match g ds with
    | none => none
    | some xs => some (.ok (.all xs), δ')
def srItems : Sr → List D
  | .all xs => xs
  | .lent _ _ xs => xs
def srBack : Sr → DS → DS
  | .all _, δ => δ
  | .lent i d _, δ => δ.set i (some d)
def srS (S FS : Nat → AS) : Sr → Nat → AS
  | .all _ => S
  | .lent i _ _ => fun j x => S j x ∨ (j = i ∧ FS i x)

section
variable {G : GC} {W : WX} {X : Cx} {n : Nat} {pn : List Nat}
/-- a slot's own things are lent -/
theorem SR.lend {Z : AS} {S : Nat → AS} {H : Hp} {δ : DS} {σ : St} {FS : Nat → AS} {i : Nat} {d : D} (r : SR G Z S H δ σ FS) (e : δ[i]? = some (some d)) :
    SR G Z (fun j x => S j x ∨ (j = i ∧ FS i x)) H (δ.set i (some (PD.lend d))) σ (fun j x => j ≠ i ∧ FS j x) where
  len := by rw [List.length_set]; exact r.len
  slot := fun j w ew => by
    rcases set_at ew with ⟨hj, ew2⟩ | ⟨hj, ew2⟩
    · cases ew2
      obtain ⟨v, ev, rp⟩ := r.slot i d e
      exact ⟨v, by rw [hj]; exact ev, (rp.lent.mono (fun _ z => z) (fun x z => by rw [hj]; exact z.imp id fun q => ⟨rfl, q⟩) fun _ _ _ e => e).congr fun x => ⟨fun q => (q.1 hj).elim, fun q => q.elim⟩⟩
    · obtain ⟨u, eu, rp⟩ := r.slot j w ew2
      exact ⟨u, eu, (rp.mono (fun _ z => z) (fun _ z => .inl z) fun _ _ _ e => e).congr fun x => ⟨fun q => q.2, fun q => ⟨hj, q⟩⟩⟩
  empt := fun j h x q => by
    refine r.empt j (fun w ew => h w ?_) x q.2
    rw [List.getElem?_set_ne (Ne.symm q.1)]; exact ew
  disj := fun j k x a b => r.disj j k x a.2 b.2
  zs := r.zs
  ss := fun a ⟨j, q⟩ => q.elim (fun z => r.ss a ⟨j, z⟩) fun z => r.own a ⟨i, z.2⟩
  nz := fun a ⟨j, hj, q⟩ => ⟨(r.nz a ⟨j, q⟩).1, fun ⟨k, z⟩ => z.elim (fun z => (r.nz a ⟨j, q⟩).2 ⟨k, z⟩) fun z => hj (r.disj j i a q z.2)⟩
/-- .. and given back -/
theorem SR.unlend {Z Z' : AS} {S : Nat → AS} {H H' : Hp} {δ δ' : DS} {σ σ' : St} {FS FS' : Nat → AS} {i : Nat} {d : D} (r : SR G Z S H δ σ FS) (e : δ[i]? = some (some d))
    (r' : SR G Z' (fun j x => S j x ∨ (j = i ∧ FS i x)) H' δ' σ' FS') (st : Step H Z (Own fun j x => j ≠ i ∧ FS j x) H' Z' (Own FS')) (es : σ'[i]? = σ[i]?) :
    SR G Z' S H' (δ'.set i (some d)) σ' (fun j x => (j = i ∧ FS i x) ∨ (j ≠ i ∧ FS' j x)) ∧ Step H Z (Own FS) H' Z' (Own fun j x => (j = i ∧ FS i x) ∨ (j ≠ i ∧ FS' j x)) := by
  obtain ⟨v, ev, rp⟩ := r.slot i d e
  have notP : ∀ x, FS i x → ¬ Own (fun j x => j ≠ i ∧ FS j x) x := fun x h ⟨j, hj, q⟩ => hj (r.disj j i x q h)
  have apart : ∀ j x, FS' j x → FS i x → False := fun j x a b => by
    rcases st.pnew x ⟨j, a⟩ with z | z
    · exact notP x b z
    · obtain ⟨o, e⟩ := r.own x ⟨i, b⟩; rw [z] at e; cases e
  refine ⟨⟨by rw [List.length_set]; exact r'.len, fun j w ew => ?_, fun j h x q => ?_, fun j k x a b => ?_, r'.zs, fun a ⟨j, z⟩ => r'.ss a ⟨j, .inl z⟩, fun a ⟨j, q⟩ => ?_⟩, ?_⟩
  · rcases set_at ew with ⟨hj, ew2⟩ | ⟨hj, ew2⟩
    · cases ew2
      subst hj
      refine ⟨v, es.trans ev, ((rp.mono st.zin (fun _ z => z) fun a z o ea => st.keep a o ea fun q => ?_)).congr fun x => ⟨fun q => q.elim (fun z => z.2) fun z => (z.1 rfl).elim, fun q => .inl ⟨rfl, q⟩⟩⟩
      obtain ⟨k, hk, q⟩ := q
      rcases z with z | z | z
      · exact (r.nz a ⟨k, q⟩).1 z
      · exact (r.nz a ⟨k, q⟩).2 ⟨_, z⟩
      · exact hk (r.disj k _ a q z)
    · obtain ⟨u, eu, rp'⟩ := r'.slot j w ew2
      exact ⟨u, eu, (rp'.mono (fun _ z => z) (fun x z => z.elim id fun z => (hj z.1).elim) fun _ _ _ e => e).congr fun x => ⟨fun q => q.elim (fun z => (hj z.1).elim) fun z => z.2, fun q => .inr ⟨hj, q⟩⟩⟩
  · rcases q with ⟨hj, q⟩ | ⟨hj, q⟩
    · subst hj
      have hl : j < δ'.length := by
        rw [r'.len]
        have := (List.getElem?_eq_some_iff.mp (es.trans ev)).1
        exact this
      exact h d (by rw [List.getElem?_set_self hl])
    · refine r'.empt j (fun w ew => h w ?_) x q
      rw [List.getElem?_set_ne (Ne.symm hj)]; exact ew
  · rcases a with ⟨hj, a⟩ | ⟨hj, a⟩ <;> rcases b with ⟨hk, b⟩ | ⟨hk, b⟩
    · rw [hj, hk]
    · exact (apart k x b a).elim
    · exact (apart j x a b).elim
    · exact r'.disj j k x a b
  · rcases q with ⟨hj, q⟩ | ⟨hj, q⟩
    · refine ⟨fun z => ?_, (r.nz a ⟨i, q⟩).2⟩
      rcases st.znew a z with z | z | z
      · exact (r.nz a ⟨i, q⟩).1 z
      · exact notP a q z
      · obtain ⟨o, e⟩ := r.own a ⟨i, q⟩; rw [z] at e; cases e
    · exact ⟨(r'.nz a ⟨j, q⟩).1, fun ⟨k, z⟩ => (r'.nz a ⟨j, q⟩).2 ⟨k, .inl z⟩⟩
  · refine ⟨fun a o ea q => st.keep a o ea fun ⟨j, _, z⟩ => q ⟨j, z⟩, st.there, st.zin, fun a z => (st.znew a z).imp id (·.imp (fun ⟨j, _, q⟩ => ⟨j, q⟩) id), fun a ⟨j, q⟩ => ?_⟩
    rcases q with ⟨_, q⟩ | ⟨_, q⟩
    · exact .inl ⟨i, q⟩
    · exact (st.pnew a ⟨j, q⟩).imp (fun ⟨k, _, q⟩ => ⟨k, q⟩) id

/-- behind a source: it stands (Src), and nothing of it is held by the slots -/
structure PostI (G : GC) (S : Nat → AS) (qt : Bool) (σ : St) (H : Hp) (Z : AS) (FS : Nat → AS) (s : Sr) (δ' : DS) (J : It) (H' : Hp) (Z' : AS) (FS' : Nat → AS) : Prop where
  ex : ∃ δ1 FS1 T, PostB G S qt σ H Z FS δ1 H' Z' FS1 ∧ Src G J (srItems s) Z' T H' ∧ (∀ a, T a → (∃ o, H' a = some o) ∧ ¬ Own FS' a) ∧
    SR G Z' (srS S FS1 s) H' δ' σ FS' ∧ match s with
      | .all _ => δ' = δ1 ∧ FS' = FS1
      | .lent i d _ => δ1[i]? = some (some d) ∧ δ' = δ1.set i (some (lend d)) ∧ FS' = fun j x => j ≠ i ∧ FS1 j x
def rdI (G : GC) (W : WX) (qt : Bool) (f : DS → Option EI) : TI := fun σ H R => ∃ δ Z S FS, SR G Z S H δ σ FS ∧ (∃ r, f δ = some r) ∧
  (∀ s δ', f δ = some (.ok s, δ') → ∀ J H' Z' FS', PostI G S qt σ H Z FS s δ' J H' Z' FS' → R J H') ∧
  (∀ x δ', f δ = some (.ex x, δ') → ∀ c dd H' Z' FS', PostX G S σ H Z FS x δ' c dd H' Z' FS' → W c dd σ H')

theorem src_list {Z : AS} {H : Hp} {a : Addr} {vs : List V} {xs : List D} {T : AS} (sq : (Rd H a (.lst vs) ∧ (Z a ∨ T a)) ∨ KwL G.K a vs) (hl : xs.length = vs.length) (he : ∀ (i : Nat) d w, xs[i]? = some d → vs[i]? = some w → RepF G Z H d w) : Src G (Itl G.K a) xs Z T H := by
  have keep : ∀ {H' : Hp}, (∀ a, (Z a ∨ T a) → ∀ o, H a = some o → H' a = some o) → SqL G.K H' a vs := fun {H'} k => by
    rcases sq with ⟨sq, z⟩ | sq
    · exact .inl (Rd.keep (k a z) sq)
    · exact .inr sq
  refine ⟨fun Z' H' i hz k hi => ⟨vs, vs[i]'(hl ▸ hi), keep k, by simp [hl ▸ hi]⟩, fun Z' H' hz k => ⟨vs, keep k, by rw [hl]; exact Nat.le_refl _⟩, fun Z' H' i x H2 hz k y => ⟨y.1, fun d e => ?_⟩⟩
  have := y.2 vs (keep k)
  exact (he i d x e this).mono hz fun a z o e => k a (.inl z) o e
theorem src_tup {Z : AS} {H : Hp} {a : Addr} {vs : List V} {xs : List D} {T : AS} (sq : (Rd H a (.tup vs) ∧ (Z a ∨ T a)) ∨ KwT G.K a vs) (hl : xs.length = vs.length) (he : ∀ (i : Nat) d w, xs[i]? = some d → vs[i]? = some w → RepF G Z H d w) : Src G (Itt G.K a) xs Z T H := by
  have keep : ∀ {H' : Hp}, (∀ a, (Z a ∨ T a) → ∀ o, H a = some o → H' a = some o) → SqT G.K H' a vs := fun {H'} k => by
    rcases sq with ⟨sq, z⟩ | sq
    · exact .inl (Rd.keep (k a z) sq)
    · exact .inr sq
  refine ⟨fun Z' H' i hz k hi => ⟨vs, vs[i]'(hl ▸ hi), keep k, by simp [hl ▸ hi]⟩, fun Z' H' hz k => ⟨vs, keep k, by rw [hl]; exact Nat.le_refl _⟩, fun Z' H' i x H2 hz k y => ⟨y.1, fun d e => ?_⟩⟩
  have := y.2 vs (keep k)
  exact (he i d x e this).mono hz fun a z o e => k a (.inl z) o e
theorem src_str {Z : AS} {H : Hp} {z : Str} {T : AS} : Src G (Its z) (signs z) Z T H := by
  have hl : (signs z).length = z.cps.size := by unfold signs; simp
  refine ⟨fun Z' H' i hz k hi => ?_, fun Z' H' hz k => ?_, fun Z' H' i x H2 hz k y => ⟨y.1, fun d e => ?_⟩⟩
  · show i < z.cps.size
    omega
  · show z.cps.size ≤ (signs z).length
    omega
  · obtain ⟨_, c, hc, rfl⟩ := y
    unfold signs at e
    obtain ⟨c', ec, rfl⟩ := getMap e
    have : c' = c := by
      rw [Array.getElem?_toList] at ec
      rw [hc] at ec
      exact (Option.some.inj ec).symm
    subst this
    exact .str _
theorem src_rng {Z : AS} {H : Hp} {lo : Int} {n : Nat} {T : AS} : Src G (Itr lo n) (upto lo n) Z T H := by
  have hl : (upto lo n).length = n := by unfold upto; simp
  refine ⟨fun Z' H' i hz k hi => ?_, fun Z' H' hz k => ?_, fun Z' H' i x H2 hz k y => ⟨y.1, fun d e => ?_⟩⟩
  · show i < n
    omega
  · show n ≤ (upto lo n).length
    omega
  · obtain ⟨_, rfl⟩ := y
    unfold upto at e
    obtain ⟨k, ek, rfl⟩ := getMap e
    have : k = i := by
      obtain ⟨h, e⟩ := List.getElem?_eq_some_iff.mp ek
      rw [List.getElem_range] at e
      exact e.symm
    subst this
    exact .int _
/-- a temporary list of arguments is let go -/
theorem PostA.b {S : Nat → AS} {ks : List Bool} {qt : Bool} {σ : St} {H : Hp} {Z : AS} {FS : Nat → AS} {ds : List D} {δ' : DS} {vs : List V} {H' : Hp} {Z' : AS} {FS' : Nat → AS} {B : Nat → AS} (p : PostA G S ks qt σ H Z FS ds δ' vs H' Z' FS' B) : PostB G S qt σ H Z FS δ' H' Z' FS' :=
  ⟨p.sr, p.st.sub fun _ z => .inl z, p.qq⟩
theorem rd_rng {g : List D → Option (List D)} {r : List V → Hp → (It → Hp → Prop) → Prop} (hg : ∀ Z S H ds vs xs R, ArgV G Z S H ds vs → g ds = some xs → (∀ J, (∀ Z' T H', Src G J xs Z' T H') → R J H) → r vs H R)
    {ks : List Bool} {qt : Bool} {f : DS → Option EA} {ta : TA} (ha : ∀ σ H Q, rdA G W ks qt f σ H Q → ta σ H Q) : ∀ σ H R, rdI G W qt (evRng g f) σ H R → ta σ H fun vs H1 => r vs H1 R := by
  rintro σ H R ⟨δ, Z, S, FS, sr, ⟨w, hf⟩, ok, ex⟩
  unfold evRng at hf ok ex
  refine ha σ H _ ⟨δ, Z, S, FS, sr, ?_, fun ds δ' h vs H' Z' FS' B p => ?_, fun x δ' h => ?_⟩
  · cases q : f δ with
    | none => rw [q] at hf; cases hf
    | some w => exact ⟨w, rfl⟩
  · rw [h] at hf ok
    simp only at hf ok
    cases e : g ds with
    | none => rw [e] at hf; cases hf
    | some xs =>
      rw [e] at ok
      exact hg Z' (Own S) H' ds vs xs _ p.ar.argV e fun J sj => ok (.all xs) δ' rfl J H' Z' FS' ⟨δ', FS', S0, p.b, sj _ _ _, fun a z => z.elim, p.sr, rfl, rfl⟩
  · rw [h] at ex
    exact ex x δ' rfl
theorem rng1_ok : ∀ Z S H ds vs xs (R : It → Hp → Prop), ArgV G Z S H ds vs → rng1Of ds = some xs → (∀ J, (∀ Z' T H', Src G J xs Z' T H') → R J H) → ∃ j : Int, vs = [.int j] ∧ -(2 ^ 62) ≤ j ∧ j < 2 ^ 62 ∧ R (Itr 0 j.toNat) H := by
  intro Z S H ds vs xs R a e h
  unfold rng1Of at e
  split at e
  · split at e
    · rename_i hb
      cases e
      obtain ⟨x, A, rfl, r1⟩ := argv1 a
      rw [r1.intV]
      exact ⟨_, rfl, hb.1, hb.2, h _ fun _ _ _ => src_rng⟩
    · cases e
  · cases e
theorem rng2_ok : ∀ Z S H ds vs xs (R : It → Hp → Prop), ArgV G Z S H ds vs → rng2Of ds = some xs → (∀ J, (∀ Z' T H', Src G J xs Z' T H') → R J H) → ∃ i j : Int, vs = [.int i, .int j] ∧ (-(2 ^ 62) ≤ i ∧ i < 2 ^ 62 ∧ -(2 ^ 62) ≤ j ∧ j < 2 ^ 62) ∧ R (Itr i (j - i).toNat) H := by
  intro Z S H ds vs xs R a e h
  unfold rng2Of at e
  split at e
  · split at e
    · rename_i hb
      cases e
      obtain ⟨x, y, A, B, rfl, r1, r2⟩ := argv2 a
      rw [r1.intV, r2.intV]
      exact ⟨_, _, rfl, hb, h _ fun _ _ _ => src_rng⟩
    · cases e
  · cases e
theorem Rep.lstS {Z S : AS} {H : Hp} {m : Fl} {xs : List D} {v : V} {A : AS} (r : Rep G Z S H (.lst m xs) v A) (hs : shal m = true) : ∃ a vs, v = .ref a ∧ ((Rd H a (.lst vs) ∧ (Z a ∨ S a ∨ A a)) ∨ KwL G.K a vs) ∧ xs.length = vs.length ∧ ∀ (i : Nat) d w, xs[i]? = some d → vs[i]? = some w → RepF G Z H d w := by
  cases r with
  | fz h hA =>
    cases h with
    | lsk h hl he => exact ⟨_, _, rfl, h.imp (fun z => ⟨z.2, .inl z.1⟩) id, hl, he⟩
    | lst z h hl he => exact ⟨_, _, rfl, .inl ⟨.inl h, .inl z⟩, hl, he⟩
  | lo h hl he hA => exact ⟨_, _, rfl, .inl ⟨.inl h, .inr (.inr ((hA _).mpr rfl))⟩, hl, he⟩
  | loo B h' hl he hd hn ho hA => exact absurd hs (by decide)
  | ll s h hl he hA => exact ⟨_, _, rfl, .inl ⟨.inl h, .inr (.inl s)⟩, hl, he⟩
  | lll s h hl he hA => exact absurd hs (by decide)
theorem Rep.tupS {Z S : AS} {H : Hp} {xs : List D} {v : V} {A : AS} (r : Rep G Z S H (.tup xs) v A) : ∃ a vs, v = .ref a ∧ ((Rd H a (.tup vs) ∧ (Z a ∨ S a ∨ A a)) ∨ KwT G.K a vs) ∧ xs.length = vs.length ∧ ∀ (i : Nat) d w, xs[i]? = some d → vs[i]? = some w → RepF G Z H d w := by
  cases r with
  | fz h hA =>
    cases h with
    | tup h hl he => exact ⟨_, _, rfl, h.imp (fun z => ⟨z.2, .inl z.1⟩) id, hl, he⟩
/-- an owned list that is no view, or a view that is not owned: the list is held by nobody else -/
theorem Rep.notOwned {Z S : AS} {H : Hp} {d : D} {v : V} {A : AS} {xs : List D} (r : Rep G Z S H d v A) (h : owned d = false) (hi : itemsOf d = some xs) : ∀ x, ¬ A x := by
  cases r with
  | fz h hA => exact hA
  | lo h' hl he hA => exact absurd (show true = false from h) (by decide)
  | ll s h hl he hA => exact hA
  | _ => exact absurd hi (by simp [itemsOf, shal])
/-- the items of a value, walked -/
theorem src_of {Z S : AS} {H : Hp} {d : D} {v : V} {A : AS} {xs : List D} (r : Rep G Z S H d v A) (hi : itemsOf d = some xs) : ∀ (R : It → Hp → Prop), (∀ J, Src G J xs Z (fun x => S x ∨ A x) H → R J H) →
    (∃ a, v = .ref a ∧ (∃ xs, SqL G.K H a xs) ∧ R (Itl G.K a) H) ∨ (∃ a, v = .ref a ∧ (∃ xs, SqT G.K H a xs) ∧ R (Itt G.K a) H) ∨ ∃ z, v = .str z ∧ R (Its z) H := by
  intro R h
  cases d with
  | lst m ys =>
    have hi : (if shal m = true then some ys else none) = some xs := hi
    by_cases hs : shal m = true
    · rw [if_pos hs] at hi; cases hi
      obtain ⟨a, vs, rfl, sq, hl, he⟩ := r.lstS hs
      exact .inl ⟨a, rfl, ⟨vs, sq.imp (fun z => z.1) id⟩, h _ (src_list sq hl he)⟩
    · rw [if_neg hs] at hi; cases hi
  | tup ys =>
    cases hi
    obtain ⟨a, vs, rfl, sq, hl, he⟩ := r.tupS
    exact .inr (.inl ⟨a, rfl, ⟨vs, sq.imp (fun z => z.1) id⟩, h _ (src_tup sq hl he)⟩)
  | str z =>
    cases hi
    rw [r.strV]
    exact .inr (.inr ⟨z, rfl, h _ src_str⟩)
  | _ => cases hi
/-- an expression's value is walked -/
theorem rd_src {vw qt : Bool} {f : DS → Option ER} {te : TE} (ha : ∀ σ H Q, rdE G W vw qt f σ H Q → te σ H Q) : ∀ σ H R, rdI G W qt (evSrc none vw f) σ H R → iAny G.K te σ H R := by
  rintro σ H R ⟨δ, Z, S, FS, sr, ⟨w, hf⟩, ok, ex⟩
  unfold evSrc at hf ok ex
  refine ha σ H _ ⟨δ, Z, S, FS, sr, ?_, fun d δ' h v H' Z' FS' A p => ?_, fun x δ' h => ?_⟩
  · cases q : f δ with
    | none => rw [q] at hf; cases hf
    | some w => exact ⟨w, rfl⟩
  · rw [h] at hf ok
    simp only at hf ok
    cases e : itemsOf d with
    | none => rw [e] at hf; cases hf
    | some xs =>
      rw [e] at hf ok
      simp only at hf ok
      by_cases hc : (vw && owned d) = true
      · rw [if_pos hc] at hf; cases hf
      · rw [if_neg hc] at ok
        have vl := p.vl
        have rp := p.rep
        refine src_of rp e R fun J sj => ok (.all xs) δ' rfl J H' Z' FS' ⟨δ', FS', _, p.b, sj, fun a z => ?_, p.sr, rfl, rfl⟩
        rcases z with z | z
        · exact ⟨p.sr.ss a z, fun q => (p.sr.nz a q).2 z⟩
        · refine ⟨rp.own a z, fun q => ?_⟩
          cases hv : vw with
          | true =>
            have ho : owned d = false := by
              cases q : owned d with
              | true => exact absurd (by simp [hv, q]) hc
              | false => rfl
            exact rp.notOwned ho e a z
          | false =>
            rw [hv, if_neg Bool.false_ne_true] at vl
            exact (vl.2 a z).2.2 q
  · rw [h] at ex
    exact ex x δ' rfl
/-- a name's list is walked; if the name owns it, it is lent meanwhile -/
theorem rd_srcV {i : Nat} : ∀ σ H R, rdI G W false (evSrc (some i) true (evVar i)) σ H R → iAny G.K (tVar i) σ H R := by
  rintro σ H R ⟨δ, Z, S, FS, sr, ⟨w, hf⟩, ok, ex⟩
  unfold evSrc evVar at hf ok
  cases e : δ[i]? with
  | none => rw [e] at hf; cases hf
  | some q =>
    cases q with
    | none => rw [e] at hf; cases hf
    | some d =>
      simp only [e] at hf ok
      obtain ⟨v, ev, rp⟩ := sr.slot i d e
      refine ⟨v, ev, ?_⟩
      cases ei : itemsOf d with
      | none => rw [ei] at hf; cases hf
      | some xs =>
        rw [ei] at hf ok
        simp only at hf ok
        have sb : PostB G S false σ H Z FS δ H Z FS := ⟨sr, Step.refl _ _ _, fun q => absurd q Bool.false_ne_true⟩
        by_cases hc : owned d = true
        · rw [hc] at ok
          refine src_of rp ei R fun J sj => ok (.lent i d xs) _ rfl J H Z _ ⟨δ, FS, _, sb, sj, fun a z => ?_, sr.lend e, e, rfl, rfl⟩
          rcases z with z | z
          · exact ⟨sr.ss a ⟨i, z⟩, fun ⟨j, _, q⟩ => (sr.nz a ⟨j, q⟩).2 ⟨i, z⟩⟩
          · exact ⟨rp.own a z, fun ⟨j, hj, q⟩ => hj (sr.disj j i a q z)⟩
        · have hc' : owned d = false := by cases q : owned d <;> simp_all
          rw [hc'] at ok
          refine src_of rp ei R fun J sj => ok (.all xs) _ rfl J H Z FS ⟨δ, FS, _, sb, sj, fun a z => ?_, sr, rfl, rfl⟩
          rcases z with z | z
          · exact ⟨sr.ss a ⟨i, z⟩, fun q => (sr.nz a q).2 ⟨i, z⟩⟩
          · exact (rp.notOwned hc' ei a z).elim
def evFor (fs : DS → Option EI) (tg : D → DS → Option DS) (body : DS → Option ES) : DS → Option ES := fun δ => match fs δ with
  | none => none
  | some (.ex x, δ') => some (.ex x, δ')
  | some (.ok s, δ') => match evForL tg body (srItems s) δ' with
    | none => none
    | some (o, δ2) => some (o, srBack s δ2)
theorem Pin.sub {pn pn' : List Nat} {σ σ' : St} (h : Pin pn' σ σ') (s : ∀ i ∈ pn, i ∈ pn') : Pin pn σ σ' := ⟨h.1, fun i m => h.2 i (s i m)⟩
/-- the wants within a loop over what is lent -/
theorem WantS.lent {S : Nat → AS} {Dn : Ends} {σ : St} {H : Hp} {Z : AS} {FS : Nat → AS} {δ : DS} {i : Nat} {d : D} {pn' : List Nat} {o : Out} {δ2 : DS} (sr : SR G Z S H δ σ FS) (e : δ[i]? = some (some d)) (hi : i ∈ pn') (hp : ∀ j ∈ pn, j ∈ pn')
    (w : WantS G W S pn Dn σ H Z FS (o, δ2.set i (some d))) : WantS G W (fun j x => S j x ∨ (j = i ∧ FS i x)) pn' Dn σ H Z (fun j x => j ≠ i ∧ FS j x) (o, δ2) := by
  have un := fun {H' : Hp} {Z' : AS} {δ' : DS} {σ' : St} {FS' : Nat → AS} (r' : SR G Z' (fun j x => S j x ∨ (j = i ∧ FS i x)) H' δ' σ' FS') (st : Step H Z (Own fun j x => j ≠ i ∧ FS j x) H' Z' (Own FS')) (pw : Pin pn' σ σ') => sr.unlend e r' st (pw.2 i hi)
  refine ⟨fun δ' e' σ' H' Z' FS' p => ?_, fun δ' e' σ' H' Z' FS' p => ?_, fun δ' e' σ' H' Z' FS' p => ?_, fun d' δ' e' v σ' H' Z' FS' A p => ?_, fun x δ' e' c dd σ' H' Z' FS' p => ?_⟩
  · cases e'
    obtain ⟨a, b⟩ := un p.sr p.st p.pn
    exact w.nx _ rfl σ' H' Z' _ ⟨a, b, p.pn.sub hp⟩
  · cases e'
    obtain ⟨a, b⟩ := un p.sr p.st p.pn
    exact w.bk _ rfl σ' H' Z' _ ⟨a, b, p.pn.sub hp⟩
  · cases e'
    obtain ⟨a, b⟩ := un p.sr p.st p.pn
    exact w.ct _ rfl σ' H' Z' _ ⟨a, b, p.pn.sub hp⟩
  · cases e'
    obtain ⟨a, b⟩ := un p.sr (p.st.sub fun _ z => .inl z) p.pn
    have nS : ∀ x, A x → ¬ FS i x := fun x hx z => (p.vl.2 x hx).2.1 ⟨i, .inr ⟨rfl, z⟩⟩
    refine w.rt _ _ rfl v σ' H' Z' _ A ⟨a, ?_, ⟨p.vl.1, fun x hx => ⟨(p.vl.2 x hx).1, fun ⟨j, z⟩ => (p.vl.2 x hx).2.1 ⟨j, .inl z⟩, fun ⟨j, z⟩ => ?_⟩⟩, p.pn.sub hp⟩
    · refine { b with pnew := fun x z => ?_ }
      rcases z with z | z
      · exact b.pnew x z
      · rcases p.st.pnew x (.inr z) with ⟨j, _, q⟩ | q
        · exact .inl ⟨j, q⟩
        · exact .inr q
    · rcases z with ⟨_, z⟩ | ⟨_, z⟩
      · exact nS x hx z
      · exact (p.vl.2 x hx).2.2 ⟨j, z⟩
  · cases e'
    obtain ⟨a, b⟩ := un p.sr p.st p.pn
    exact w.ex x _ rfl c dd σ' H' Z' _ ⟨a, b, p.xr, p.pn.sub hp⟩
theorem WantS.pin {S : Nat → AS} {D : Ends} {σ : St} {H : Hp} {Z : AS} {FS : Nat → AS} {pn' : List Nat} {r : ES} (hp : ∀ j ∈ pn, j ∈ pn') (w : WantS G W S pn D σ H Z FS r) : WantS G W S pn' D σ H Z FS r :=
  ⟨fun δ' e' σ' H' Z' FS' p => w.nx δ' e' σ' H' Z' FS' ⟨p.sr, p.st, p.pn.sub hp⟩, fun δ' e' σ' H' Z' FS' p => w.bk δ' e' σ' H' Z' FS' ⟨p.sr, p.st, p.pn.sub hp⟩, fun δ' e' σ' H' Z' FS' p => w.ct δ' e' σ' H' Z' FS' ⟨p.sr, p.st, p.pn.sub hp⟩,
    fun d' δ' e' v σ' H' Z' FS' A p => w.rt d' δ' e' v σ' H' Z' FS' A ⟨p.sr, p.st, p.vl, p.pn.sub hp⟩, fun x δ' e' c dd σ' H' Z' FS' p => w.ex x δ' e' c dd σ' H' Z' FS' ⟨p.sr, p.st, p.xr, p.pn.sub hp⟩⟩
theorem rd_for {qt : Bool} {pn' : List Nat} {fs : DS → Option EI} {tg : D → DS → Option DS} {body : DS → Option ES} {wi : TI} {g : TG} {tb : TS} (hi : ∀ σ H R, rdI G W qt fs σ H R → wi σ H R) (htg : TgOk G n pn' tg g) (hb : ∀ D σ H, rdS G W n pn' body D σ H → tb D σ H)
    (hp : ∀ j ∈ pn, j ∈ pn') (hrt : ∀ δ i d xs δ', fs δ = some (.ok (.lent i d xs), δ') → i ∈ pn') : ∀ D σ H, rdS G W n pn (evFor fs tg body) D σ H → tFor wi g tb D σ H := by
  rintro D σ H ⟨hn, δ, Z, S, FS, sr, r, hr, w⟩
  unfold evFor at hr
  refine hi σ H _ ⟨δ, Z, S, FS, sr, ?_, fun s δ' h J H' Z' FS' p => ?_, fun x δ' h c dd H' Z' FS' p => ?_⟩
  · cases q : fs δ with
    | none => rw [q] at hr; cases hr
    | some w => exact ⟨w, rfl⟩
  · rw [h] at hr
    simp only at hr
    obtain ⟨δ1, FS1, T, pb, sj, tk, sr', hm⟩ := p.ex
    cases q : evForL tg body (srItems s) δ' with
    | none => rw [q] at hr; cases hr
    | some q2 =>
      obtain ⟨o, δ2⟩ := q2
      rw [q] at hr
      cases hr
      have w1 : WantS G W S pn D σ H' Z' FS1 (o, srBack s δ2) := w.back pb.s
      cases s with
      | all xs =>
        obtain ⟨rfl, rfl⟩ := hm
        exact rd_loop sj htg hb hn sr' (fun _ z => z) (fun _ _ _ e => e) (fun a z => (tk a z).1) (fun a z => (tk a z).2) q (w1.pin hp)
      | lent i d xs =>
        obtain ⟨ei, rfl, rfl⟩ := hm
        exact rd_loop sj htg hb hn sr' (fun _ z => z) (fun _ _ _ e => e) (fun a z => (tk a z).1) (fun a z => (tk a z).2) q (w1.lent pb.sr ei (hrt _ _ _ _ _ h) hp)
  · rw [h] at hr; cases hr
    exact w.ex x _ rfl c dd σ H' Z' FS' p.q
end
end PD
/-! P, part 10: list comprehensions. -/
namespace PD
open PySem L2

def wipeD : List Nat → DS → DS
  | [], δ => δ
  | v :: vs, δ => (wipeD vs δ).set v none
/-- the slots vs as they were -/
def backD : List Nat → DS → DS → DS
  | [], _, δ => δ
  | v :: vs, δ0, δ => (backD vs δ0 δ).set v ((δ0[v]?).getD none)
def evCmp (tg : D → DS → Option DS) (t : DS → Option EB) (f : DS → Option ER) (vs : List Nat) : List D → List D → DS → Option (List D × DS)
  | [], acc, δ => some (acc, δ)
  | d :: r, acc, δ => match tg d δ with
    | none => none
    | some δ1 => match t δ1 with
      | some (.ok b, δ2) => if b = true then match f δ2 with
          | some (.ok y, δ3) => if acc.length < 1000000 then evCmp tg t f vs r (acc ++ [cap y]) (wipeD vs δ3) else none
          | _ => none
        else evCmp tg t f vs r acc (wipeD vs δ2)
      | _ => none
def evLc (fs : DS → Option EI) (tg : D → DS → Option DS) (t : DS → Option EB) (f : DS → Option ER) (vs : List Nat) : DS → Option ER := fun δ => match fs δ with
  | none => none
  | some (.ex x, δ') => some (.ex x, δ')
  | some (.ok s, δ') => match evCmp tg t f vs (srItems s) [] (wipeD vs δ') with
    | none => none
    | some (acc, δ2) => some (.ok (.lst .o acc), srBack s (backD vs δ' δ2))
/-- the places that are not the comprehension's own -/
def outside (n : Nat) (vs : List Nat) : List Nat := (List.range n).filter fun i => !vs.contains i
theorem mem_outside {n : Nat} {vs : List Nat} {i : Nat} : i ∈ outside n vs ↔ i < n ∧ i ∉ vs := by
  unfold outside
  rw [List.mem_filter, List.mem_range]
  simp
theorem wipeD_len (δ : DS) : ∀ vs, (wipeD vs δ).length = δ.length
  | [] => rfl
  | v :: vs => by rw [wipeD, List.length_set, wipeD_len δ vs]
theorem wipeD_in {δ : DS} : ∀ {vs : List Nat} {i : Nat} {d : D}, i ∈ vs → (wipeD vs δ)[i]? ≠ some (some d)
  | v :: vs, i, d, h => by
    intro e
    rw [wipeD] at e
    rcases set_at e with ⟨hj, e2⟩ | ⟨hj, e2⟩
    · cases e2
    · exact wipeD_in ((List.mem_cons.mp h).resolve_left hj) e2
theorem wipeD_out {δ : DS} : ∀ {vs : List Nat} {i : Nat}, i ∉ vs → (wipeD vs δ)[i]? = δ[i]?
  | [], _, _ => rfl
  | v :: vs, i, h => by
    rw [wipeD, List.getElem?_set_ne (fun e => h (by rw [e]; exact List.mem_cons_self))]
    exact wipeD_out fun q => h (List.mem_cons_of_mem _ q)
theorem backD_len (δ0 δ : DS) : ∀ vs, (backD vs δ0 δ).length = δ.length
  | [] => rfl
  | v :: vs => by rw [backD, List.length_set, backD_len δ0 δ vs]
theorem backD_out {δ0 δ : DS} : ∀ {vs : List Nat} {i : Nat}, i ∉ vs → (backD vs δ0 δ)[i]? = δ[i]?
  | [], _, _ => rfl
  | v :: vs, i, h => by
    rw [backD, List.getElem?_set_ne (fun e => h (by rw [e]; exact List.mem_cons_self))]
    exact backD_out fun q => h (List.mem_cons_of_mem _ q)
theorem backD_in {δ0 δ : DS} : ∀ {vs : List Nat} {i : Nat}, i ∈ vs → i < δ.length → (backD vs δ0 δ)[i]? = some ((δ0[i]?).getD none)
  | v :: vs, i, h, hl => by
    rw [backD]
    by_cases e : i = v
    · subst e
      rw [List.getElem?_set_self (by rw [backD_len]; exact hl)]
    · rw [List.getElem?_set_ne (Ne.symm e)]
      exact backD_in ((List.mem_cons.mp h).resolve_left e) hl
theorem wipe_eq {σ σ2 : St} {n : Nat} {vs : List Nat} (h1 : σ.length = n) (h2 : σ2.length = n) (h : ∀ i, i < n → i ∉ vs → σ2[i]? = (wipe σ vs)[i]?) : wipe σ2 vs = wipe σ vs := by
  have win : ∀ (σ : St) (vs : List Nat) (i : Nat), i ∈ vs → i < σ.length → (wipe σ vs)[i]? = some none := by
    intro σ vs
    induction vs with
    | nil => intro i h; simp at h
    | cons v vs ih =>
      intro i h hl
      rw [wipe]
      by_cases e : i = v
      · subst e; rw [List.getElem?_set_self (by rw [wipe_length]; exact hl)]
      · rw [List.getElem?_set_ne (Ne.symm e)]
        exact ih i ((List.mem_cons.mp h).resolve_left e) hl
  refine List.ext_getElem? fun i => ?_
  by_cases hn : i < n
  · by_cases hv : i ∈ vs
    · rw [win σ2 vs i hv (by omega), win σ vs i hv (by omega)]
    · rw [wipe_out hv, h i hn hv]
  · rw [List.getElem?_eq_none (by rw [wipe_length]; omega), List.getElem?_eq_none (by rw [wipe_length]; omega)]
section
variable {G : GC} {W : WX} {X : Cx} {n : Nat} {pn : List Nat}
theorem SR.wipe {Z : AS} {S : Nat → AS} {H : Hp} {δ : DS} {σ : St} {FS : Nat → AS} (r : SR G Z S H δ σ FS) (vs : List Nat) : SR G Z S H (wipeD vs δ) (L2.wipe σ vs) (fun j x => j ∉ vs ∧ FS j x) where
  len := by rw [wipeD_len, wipe_length]; exact r.len
  slot := fun j d e => by
    by_cases h : j ∈ vs
    · exact absurd e (wipeD_in h)
    · rw [wipeD_out h] at e
      obtain ⟨v, ev, rp⟩ := r.slot j d e
      exact ⟨v, by rw [wipe_out h]; exact ev, rp.congr fun x => ⟨fun q => q.2, fun q => ⟨h, q⟩⟩⟩
  empt := fun j h x q => by
    refine r.empt j (fun d e => h d ?_) x q.2
    rw [wipeD_out q.1]; exact e
  disj := fun j k x a b => r.disj j k x a.2 b.2
  zs := r.zs
  ss := r.ss
  nz := fun a ⟨j, q⟩ => r.nz a ⟨j, q.2⟩
/-- an object of nobody's may change -/
theorem SR.other {Z : AS} {S : Nat → AS} {H : Hp} {δ : DS} {σ : St} {FS : Nat → AS} {a : Addr} {o : HO} (r : SR G Z S H δ σ FS) (h1 : ¬ Z a) (h2 : ¬ Own S a) (h3 : ¬ Own FS a) : SR G Z S (upd H a o) δ σ FS where
  len := r.len
  slot := fun i d e => by
    obtain ⟨v, ev, rp⟩ := r.slot i d e
    refine ⟨v, ev, rp.mono (fun _ z => z) (fun _ z => z) fun b z u eu => ?_⟩
    rw [upd_ne]; exact eu
    rintro rfl
    rcases z with z | z | z
    · exact h1 z
    · exact h2 ⟨i, z⟩
    · exact h3 ⟨i, z⟩
  empt := r.empt
  disj := r.disj
  zs := fun b z => by
    obtain ⟨u, e⟩ := r.zs b z
    exact ⟨u, by rw [upd_ne (by rintro rfl; exact h1 z)]; exact e⟩
  ss := fun b z => by
    obtain ⟨u, e⟩ := r.ss b z
    exact ⟨u, by rw [upd_ne (by rintro rfl; exact h2 z)]; exact e⟩
  nz := r.nz
/-- the own names of a block as they were -/
theorem SR.unwipe {Z Z' : AS} {S : Nat → AS} {H H' : Hp} {δ δ' : DS} {σ : St} {FS FS' : Nat → AS} {vs : List Nat} (r : SR G Z S H δ σ FS) (r' : SR G Z' S H' δ' (L2.wipe σ vs) FS')
    (st : Step H Z (Own fun j x => j ∉ vs ∧ FS j x) H' Z' (Own FS')) :
    SR G Z' S H' (backD vs δ δ') σ (fun j x => (j ∈ vs ∧ FS j x) ∨ (j ∉ vs ∧ FS' j x)) ∧ Step H Z (Own FS) H' Z' (Own fun j x => (j ∈ vs ∧ FS j x) ∨ (j ∉ vs ∧ FS' j x)) := by
  have notP : ∀ i x, i ∈ vs → FS i x → ¬ Own (fun j x => j ∉ vs ∧ FS j x) x := fun i x hi h ⟨j, hj, q⟩ => hj (r.disj j i x q h ▸ hi)
  have apart : ∀ i j x, i ∈ vs → FS' j x → FS i x → False := fun i j x hi a b => by
    rcases st.pnew x ⟨j, a⟩ with z | z
    · exact notP i x hi b z
    · obtain ⟨o, e⟩ := r.own x ⟨i, b⟩; rw [z] at e; cases e
  have hlen : δ'.length = δ.length := by rw [r'.len, wipe_length, r.len]
  refine ⟨⟨by rw [backD_len, hlen]; exact r.len, fun j w ew => ?_, fun j h x q => ?_, fun j k x a b => ?_, r'.zs, r'.ss, fun a ⟨j, q⟩ => ?_⟩, ?_⟩
  · by_cases hj : j ∈ vs
    · have hl : j < δ'.length := by
        have := (List.getElem?_eq_some_iff.mp ew).1
        rw [backD_len] at this; exact this
      rw [backD_in hj hl] at ew
      have hl2 : j < δ.length := by omega
      have e2 : δ[j]? = some (some w) := by
        have : δ[j]? = some δ[j] := by simp [hl2]
        rw [this] at ew
        simp at ew
        rw [this, ew]
      obtain ⟨v, ev, rp⟩ := r.slot j w e2
      refine ⟨v, ev, (rp.mono st.zin (fun _ z => z) fun a z o ea => st.keep a o ea fun q => ?_).congr fun x => ⟨fun q => q.elim (fun z => z.2) fun z => (z.1 hj).elim, fun q => .inl ⟨hj, q⟩⟩⟩
      obtain ⟨k, hk, q⟩ := q
      rcases z with z | z | z
      · exact (r.nz a ⟨k, q⟩).1 z
      · exact (r.nz a ⟨k, q⟩).2 ⟨_, z⟩
      · exact hk (r.disj k _ a q z ▸ hj)
    · rw [backD_out hj] at ew
      obtain ⟨u, eu, rp'⟩ := r'.slot j w ew
      rw [wipe_out hj] at eu
      exact ⟨u, eu, rp'.congr fun x => ⟨fun q => q.elim (fun z => (hj z.1).elim) fun z => z.2, fun q => .inr ⟨hj, q⟩⟩⟩
  · rcases q with ⟨hj, q⟩ | ⟨hj, q⟩
    · refine r.empt j (fun w ew => h w ?_) x q
      have hl : j < δ.length := (List.getElem?_eq_some_iff.mp ew).1
      rw [backD_in hj (by omega), ew]; rfl
    · refine r'.empt j (fun w ew => h w ?_) x q
      rw [backD_out hj]; exact ew
  · rcases a with ⟨hj, a⟩ | ⟨hj, a⟩ <;> rcases b with ⟨hk, b⟩ | ⟨hk, b⟩
    · exact r.disj j k x a b
    · exact (apart j k x hj b a).elim
    · exact (apart k j x hk a b).elim
    · exact r'.disj j k x a b
  · rcases q with ⟨hj, q⟩ | ⟨hj, q⟩
    · refine ⟨fun z => ?_, (r.nz a ⟨j, q⟩).2⟩
      rcases st.znew a z with z | z | z
      · exact (r.nz a ⟨j, q⟩).1 z
      · exact notP j a hj q z
      · obtain ⟨o, e⟩ := r.own a ⟨j, q⟩; rw [z] at e; cases e
    · exact r'.nz a ⟨j, q⟩
  · refine ⟨fun a o ea q => st.keep a o ea fun ⟨j, _, z⟩ => q ⟨j, z⟩, st.there, st.zin, fun a z => (st.znew a z).imp id (·.imp (fun ⟨j, _, q⟩ => ⟨j, q⟩) id), fun a ⟨j, q⟩ => ?_⟩
    rcases q with ⟨_, q⟩ | ⟨_, q⟩
    · exact .inl ⟨j, q⟩
    · exact (st.pnew a ⟨j, q⟩).imp (fun ⟨k, _, q⟩ => ⟨k, q⟩) id
theorem own_and {p : Nat → Prop} {FS : Nat → AS} {x : Addr} : Own (fun j x => p j ∧ FS j x) x → Own FS x := fun ⟨j, _, z⟩ => ⟨j, z⟩
/-- the captured value of an expression -/
theorem PostE.cap {S : Nat → AS} {qt : Bool} {σ : St} {H : Hp} {Z : AS} {FS : Nat → AS} {d : D} {δ' : DS} {v : V} {H' : Hp} {Z' : AS} {FS' : Nat → AS} {A : AS} (p : PostE G S false qt σ H Z FS d δ' v H' Z' FS' A) :
    RepF G (fun x => Z' x ∨ A x) H' (PD.cap d) v ∧ SR G (fun x => Z' x ∨ A x) S H' δ' σ FS' ∧ Step H Z (Own FS) H' (fun x => Z' x ∨ A x) (Own FS') := by
  have vl := p.vl
  rw [if_neg Bool.false_ne_true] at vl
  refine ⟨?_, p.sr.more fun x t => ⟨vl.1.own x t, (vl.2 x t).2⟩, ⟨p.st.keep, p.st.there, fun a z => .inl (p.st.zin a z), fun a z => ?_, fun a z => p.st.pnew a (.inl z)⟩⟩
  · unfold PD.cap
    by_cases hF : isF d = true
    · rw [if_pos hF]; exact (vl.1.frozen hF).1.mono (fun _ z => .inl z) fun _ _ _ e => e
    · rw [if_neg hF]; exact vl.1.freeze
  · rcases z with z | z
    · exact p.st.znew a z
    · exact (p.st.pnew a (.inr z)).elim (fun q => .inr (.inl q)) fun q => .inr (.inr q)
theorem fin {H H1 H2 : Hp} {Z Z1 Z2 P P1 P2 : AS} {L : Addr} (s2 : Step H Z P H2 Z2 P2) (s1 : Step H Z P H1 Z1 P1) (hL : H1 L = none) : Step H Z P H2 Z2 (fun x => P2 x ∨ x = L) := by
  refine { s2 with pnew := fun a z => z.elim (s2.pnew a) fun e => ?_ }
  subst e
  refine .inr ?_
  cases e : H a with
  | none => rfl
  | some o => obtain ⟨o', e'⟩ := s1.there a o e; rw [hL] at e'; cases e'
abbrev W0 : WX := fun _ _ _ _ => False
/-- [e for target in source if test] -/
theorem rd_lc {q1 q2 q3 : Bool} {fs : DS → Option EI} {tg : D → DS → Option DS} {t : DS → Option EB} {f : DS → Option ER} {vs : List Nat} {wi : TI} {g : TG} {tt : TT} {te : TE} (hi : ∀ σ H R, rdI G W q1 fs σ H R → wi σ H R) (htg : TgOk G n (outside n vs) tg g)
    (ht : ∀ σ H Q, rdT G W0 q2 t σ H Q → tt σ H Q) (hf : ∀ σ H Q, rdE G W0 false q3 f σ H Q → te σ H Q) (hrt : ∀ δ i d xs δ', fs δ = some (.ok (.lent i d xs), δ') → i ∉ vs) :
    ∀ σ H Q, σ.length = n → rdE G W false false (evLc fs tg t f vs) σ H Q → tLc wi g tt te vs σ H Q := by
  rintro σ H0 Q hn ⟨δ, Z, S, FS, sr, ⟨w, hev⟩, ok, ex⟩
  unfold evLc at hev ok ex
  refine hi σ H0 _ ⟨δ, Z, S, FS, sr, ?_, fun s δ1 h J H1 Z1 FS1 p => ?_, fun x δ' h => ?_⟩
  · cases q : fs δ with
    | none => rw [q] at hev; cases hev
    | some w => exact ⟨w, rfl⟩
  · rw [h] at hev ok
    simp only at hev ok
    obtain ⟨δ0, FS0, T, pb, sj, tk, sr1, hm⟩ := p.ex
    cases q : evCmp tg t f vs (srItems s) [] (wipeD vs δ1) with
    | none => rw [q] at hev; cases hev
    | some q2 =>
      obtain ⟨accF, δF⟩ := q2
      rw [q] at ok
      intro L hL
      have srw := sr1.wipe vs
      have nL1 : ¬ Z1 L := fun z => by obtain ⟨o, e⟩ := sr1.zs L z; rw [hL] at e; cases e
      have nL2 : ¬ Own (srS S FS0 s) L := fun z => by obtain ⟨o, e⟩ := sr1.ss L z; rw [hL] at e; cases e
      have nL3 : ¬ Own (fun j x => j ∉ vs ∧ FS1 j x) L := fun z => by obtain ⟨o, e⟩ := srw.own L z; rw [hL] at e; cases e
      refine ⟨fun i m H => m + i = (srItems s).length ∧ ∃ δ2 Z2 FS2 acc vacc, SR G Z2 (srS S FS0 s) H δ2 (L2.wipe σ vs) FS2 ∧ H L = some (.lst vacc) ∧ El (RepF G Z2 H) acc vacc ∧ ¬ Z2 L ∧ ¬ Own FS2 L ∧ Step H1 Z1 (Own fun j x => j ∉ vs ∧ FS1 j x) H Z2 (Own FS2) ∧
        evCmp tg t f vs ((srItems s).drop i) acc δ2 = some (accF, δF),
        ⟨(srItems s).length, rfl, wipeD vs δ1, Z1, _, [], [], srw.same (same_upd hL), upd_same, ⟨rfl, fun i x y e => by simp at e⟩, nL1, nL3, Step.same (same_upd hL) fun _ z => .inl z, by simpa using q⟩, ?_⟩
      rintro i m H ⟨hm1, δ2, Z2, FS2, acc, vacc, sr2, eL, ela, nZ, nF, st, hr⟩
      have keepZ : ∀ a, (Z1 a ∨ T a) → ∀ o, H1 a = some o → H a = some o := fun a z o e => st.keep a o e fun ⟨j, hj, q⟩ => by
        rcases z with z | z
        · exact (sr1.nz a ⟨j, q⟩).1 z
        · exact (tk a z).2 ⟨j, q⟩
      by_cases hlt : i < (srItems s).length
      · refine .inr ⟨sj.go Z2 H i st.zin keepZ hlt, _, fun H' q => ⟨m - 1, by omega, q⟩, fun x H' y => ?_⟩
        obtain ⟨rfl, yd⟩ := sj.yld Z2 H i x H' st.zin keepZ y
        have ei : (srItems s)[i]? = some (srItems s)[i] := by simp [hlt]
        rw [List.drop_eq_getElem_cons hlt, evCmp] at hr
        cases e1 : tg (srItems s)[i] δ2 with
        | none => rw [e1] at hr; cases hr
        | some δ3 =>
          rw [e1] at hr
          simp only at hr
          refine htg _ x Z2 _ H' δ2 _ FS2 δ3 (by rw [wipe_length]; exact hn) sr2 (yd _ ei) e1 _ fun σ3 FS3 sr3 o3 p3 => ?_
          have eqw : L2.wipe σ3 vs = L2.wipe σ vs := wipe_eq hn (by rw [p3.1, wipe_length]; exact hn) fun i h1 h2 => p3.2 i (mem_outside.mpr ⟨h1, h2⟩)
          refine ⟨eqw, ?_⟩
          have st3 := st.trans ((Step.refl H' Z2 (Own FS2)).sub o3)
          have nF3 : ¬ Own FS3 L := fun z => nF (o3 L z)
          -- the next turn, from a state with the block's names still set
          have next : ∀ {H4 : Hp} {δ4 : DS} {Z4 : AS} {FS4 : Nat → AS} {acc' : List D} {vacc' : List V}, SR G Z4 (srS S FS0 s) H4 δ4 σ3 FS4 → H4 L = some (.lst vacc') → El (RepF G Z4 H4) acc' vacc' → ¬ Z4 L → ¬ Own FS4 L → Step H1 Z1 (Own fun j x => j ∉ vs ∧ FS1 j x) H4 Z4 (Own FS4) →
              evCmp tg t f vs ((srItems s).drop (i + 1)) acc' (wipeD vs δ4) = some (accF, δF) → (m - 1 + (i + 1) = (srItems s).length ∧ ∃ δ2 Z2 FS2 acc vacc, SR G Z2 (srS S FS0 s) H4 δ2 (L2.wipe σ vs) FS2 ∧ H4 L = some (.lst vacc) ∧ El (RepF G Z2 H4) acc vacc ∧ ¬ Z2 L ∧ ¬ Own FS2 L ∧ Step H1 Z1 (Own fun j x => j ∉ vs ∧ FS1 j x) H4 Z2 (Own FS2) ∧
                evCmp tg t f vs ((srItems s).drop (i + 1)) acc δ2 = some (accF, δF)) := fun {H4 δ4 Z4 FS4 acc' vacc'} a b c d e g k => by
            refine ⟨by omega, wipeD vs δ4, Z4, fun j x => j ∉ vs ∧ FS4 j x, acc', vacc', ?_, b, c, d, fun z => e (own_and z), g.sub fun x z => own_and z, k⟩
            have := a.wipe vs
            rw [eqw] at this
            exact this
          refine ht σ3 H' _ ⟨δ3, Z2, _, FS3, sr3, ?_, fun b δ4 h4 H4 Z4 FS4 p4 => ?_, fun x δ4 h4 => ?_⟩
          · cases q : t δ3 with
            | none => rw [q] at hr; cases hr
            | some w => exact ⟨w, rfl⟩
          · rw [h4] at hr
            simp only at hr
            have kL : H4 L = some (.lst vacc) := p4.st.keep L _ eL nF3
            have nZ4 : ¬ Z4 L := fun z => by
              rcases p4.st.znew L z with z | z | z
              · exact nZ z
              · exact nF3 z
              · rw [z] at eL; cases eL
            have nF4 : ¬ Own FS4 L := fun z => (p4.st.pnew L z).elim nF3 fun q => by rw [q] at eL; cases eL
            have el4 : El (RepF G Z4 H4) acc vacc := ⟨ela.1, fun j x y e1 e2 => (ela.2 j x y e1 e2).step p4.st fun a z => (sr3.nz a z).1⟩
            cases b with
            | false =>
              rw [if_neg Bool.false_ne_true]
              rw [if_neg Bool.false_ne_true] at hr
              exact next p4.sr kL el4 nZ4 nF4 (st3.trans p4.st) hr
            | true =>
              rw [if_pos rfl]
              rw [if_pos rfl] at hr
              refine hf σ3 H4 _ ⟨δ4, Z4, _, FS4, p4.sr, ?_, fun d δ5 h5 v H5 Z5 FS5 A p5 => ?_, fun x δ5 h5 => ?_⟩
              · cases q : f δ4 with
                | none => rw [q] at hr; cases hr
                | some w => exact ⟨w, rfl⟩
              · rw [h5] at hr
                simp only at hr
                by_cases hz : acc.length < 1000000
                · rw [if_pos hz] at hr
                  obtain ⟨rf, srC, stC⟩ := p5.cap
                  have kL5 : H5 L = some (.lst vacc) := stC.keep L _ kL nF4
                  have nZ5 : ¬ (Z5 L ∨ A L) := fun z => by
                    rcases stC.znew L z with z | z | z
                    · exact nZ4 z
                    · exact nF4 z
                    · rw [z] at kL; cases kL
                  have nF5 : ¬ Own FS5 L := fun z => (stC.pnew L z).elim nF4 fun q => by rw [q] at kL; cases kL
                  have nS5 : ¬ Own (srS S FS0 s) L := nL2
                  have el5 : El (RepF G (fun x => Z5 x ∨ A x) H5) (acc ++ [PD.cap d]) (vacc ++ [v]) := by
                    refine ⟨by simp [el4.1], app_at el4.1 (fun j x y e1 e2 => (el4.2 j x y e1 e2).step stC fun a z => (p4.sr.nz a z).1) fun j x y e1 e2 => ?_⟩
                    cases j with
                    | zero => simp at e1 e2; subst e1 e2; exact rf
                    | succ j => simp at e1
                  refine ⟨vacc, kL5, by have := el4.1; rw [sizeLine_eq]; omega, ?_⟩
                  have ne : ∀ a, (Z5 a ∨ A a) → a ≠ L := fun a z e => nZ5 (e ▸ z)
                  refine next (srC.other nZ5 nS5 nF5) upd_same ⟨el5.1, fun j x y e1 e2 => (el5.2 j x y e1 e2).mono (fun _ z => z) fun a z o e => by rw [upd_ne (ne a z)]; exact e⟩ nZ5 nF5 ?_ hr
                  have s5 := (st3.trans p4.st).trans stC
                  refine ⟨fun a o e n => ?_, fun a o e => ?_, s5.zin, s5.znew, s5.pnew⟩
                  · rw [upd_ne]; exact s5.keep a o e n
                    rintro rfl; rw [hL] at e; cases e
                  · by_cases hq : a = L
                    · rw [hq]; exact ⟨_, upd_same⟩
                    · rw [upd_ne hq]; exact s5.there a o e
                · rw [if_neg hz] at hr; cases hr
              · rw [h5] at hr; cases hr
          · rw [h4] at hr; cases hr
      · have ei : i = (srItems s).length := by omega
        subst ei
        rw [List.drop_length] at hr
        cases hr
        refine .inl ⟨sj.stop Z2 H st.zin keepZ, ?_⟩
        obtain ⟨srb, stb⟩ := sr1.unwipe sr2 st
        have nB : ¬ Own (fun j x => (j ∈ vs ∧ FS1 j x) ∨ (j ∉ vs ∧ FS2 j x)) L := fun ⟨j, z⟩ => by
          rcases z with ⟨_, z⟩ | ⟨_, z⟩
          · obtain ⟨o, e⟩ := sr1.own L ⟨j, z⟩; rw [hL] at e; cases e
          · exact nF ⟨j, z⟩
        have rL : Rep G Z2 S0 H (.lst .o accF) (.ref L) (fun x => x = L) := .lo eL ela.1 ela.2 fun _ => Iff.rfl
        cases s with
        | all xs =>
          obtain ⟨rfl, rfl⟩ := hm
          refine ok _ _ rfl (.ref L) H Z2 _ (fun x => x = L) ⟨srb, ?_, ?_, fun q => absurd q Bool.false_ne_true⟩
          · exact fin (pb.st.trans stb) pb.st hL
          · rw [if_neg Bool.false_ne_true]
            exact ⟨rL, fun x e => by subst e; exact ⟨nZ, nL2, nB⟩⟩
        | lent i d xs =>
          obtain ⟨ei, rfl, rfl⟩ := hm
          obtain ⟨src, stc⟩ := pb.sr.unlend ei srb stb rfl
          have nS : ¬ Own S L := fun z => by obtain ⟨o, e⟩ := pb.sr.ss L z; rw [hL] at e; cases e
          have nC : ¬ Own (fun j x => (j = i ∧ FS0 i x) ∨ (j ≠ i ∧ ((j ∈ vs ∧ (j ≠ i ∧ FS0 j x)) ∨ (j ∉ vs ∧ FS2 j x)))) L := fun ⟨j, z⟩ => by
            rcases z with ⟨_, z⟩ | ⟨_, z⟩
            · obtain ⟨o, e⟩ := pb.sr.own L ⟨i, z⟩; rw [hL] at e; cases e
            · exact nB ⟨j, z⟩
          refine ok _ _ rfl (.ref L) H Z2 _ (fun x => x = L) ⟨src, ?_, ?_, fun q => absurd q Bool.false_ne_true⟩
          · exact fin (pb.st.trans stc) pb.st hL
          · rw [if_neg Bool.false_ne_true]
            exact ⟨rL, fun x e => by subst e; exact ⟨nZ, nS, nC⟩⟩
  · rw [h] at ex
    exact ex x δ' rfl
end
end PD
/-! P, part 11: own functions. -/
namespace PD
open PySem L2

/-- what a function does: data in, an answer and what its parameters hold behind it -/
abbrev FD := List D → Option ER
def spF (G : GC) (F : FD) : Sp := fun vs H Q E => ∃ ds Z S FS, SR G Z S H (ds.map some) (vs.map some) FS ∧ (∃ r, F ds = some r) ∧
  (∀ d δ', F ds = some (.ok d, δ') → ∀ v H' Z' FS' A, PostE G S false false (vs.map some) H Z FS d δ' v H' Z' FS' A → Q v H') ∧
  (∀ x δ', F ds = some (.ex x, δ') → ∀ c dd H' Z' FS', PostX G S (vs.map some) H Z FS x δ' c dd H' Z' FS' → E c dd H')
/-- arguments: views are lent, the others frozen -/
def argD : List Bool → List D → List D
  | k :: ks, d :: ds => (if k then lend d else cap d) :: argD ks ds
  | _, _ => []
def evCall (F : FD) (ks : List Bool) (dds : List D) (fa : DS → Option EA) : DS → Option ER := fun δ => match fa δ with
  | none => none
  | some (.ex x, δ') => some (.ex x, δ')
  | some (.ok ds, δ') => match F (argD ks ds ++ dds) with
    | none => none
    | some (.ex x, _) => some (.ex x, δ')
    | some (.ok d, _) => some (.ok d, δ')
def hd0 (δ : DS) : Option D := (δ[0]?).getD none
/-- the first argument is a name, and what it holds is changed -/
def evCallM (F : FD) (i : Nat) (ks : List Bool) (dds : List D) (fr : DS → Option EA) : DS → Option ER := fun δ => match δ[i]? with
  | some (some _) => match fr δ with
    | none => none
    | some (.ex x, δ') => some (.ex x, δ')
    | some (.ok ds, δ') => match δ'[i]? with
      | some (some d) => if capOk ks ds then match F (d :: (ds.map cap ++ dds)) with
        | none => none
        | some (.ex x, δr) => some (.ex x, δ'.set i (hd0 δr))
        | some (.ok r, δr) => some (.ok r, δ'.set i (hd0 δr)) else none
      | _ => none
  | _ => none
def outD (np : Nat) (m : Bool) (δ : DS) : DS := if m then hd0 δ :: List.replicate (np - 1) none else List.replicate np none
def fnOf (n np : Nat) (m : Bool) (ev : DS → Option ES) : FD := fun ds => if ds.length = np then
    match ev (ds.map some ++ List.replicate (n - np) none) with
    | some (.rt d, δ) => some (.ok d, outD np m δ)
    | some (.nx, δ) => some (.ok .non, outD np m δ)
    | some (.ex x, δ) => some (.ex x, outD np m δ)
    | _ => none
  else none
theorem fnOf_len {n np : Nat} {m : Bool} {ev : DS → Option ES} {ds : List D} {r : ER} (h : fnOf n np m ev ds = some r) : ds.length = np := by
  unfold fnOf at h
  by_cases e : ds.length = np
  · exact e
  · rw [if_neg e] at h; cases h
/-- written scalars, in each heap -/
def Cst (G : GC) (dds : List D) (dvs : List V) : Prop := ∀ Z H, El (RepF G Z H) dds dvs

section
variable {G : GC} {W : WX}
theorem argD_len : ∀ {ks : List Bool} {ds : List D}, ks.length = ds.length → (argD ks ds).length = ds.length
  | [], [], _ => rfl
  | k :: ks, d :: ds, h => by simp [argD, argD_len (ks := ks) (ds := ds) (by simpa using h)]
theorem argD_at : ∀ {ks : List Bool} {ds : List D} {j : Nat} {e : D}, (argD ks ds)[j]? = some e → ∃ k d, ks[j]? = some k ∧ ds[j]? = some d ∧ e = if k then lend d else cap d
  | [], _, j, e, h => by simp [argD] at h
  | k :: ks, [], j, e, h => by simp [argD] at h
  | k :: ks, d :: ds, 0, e, h => by simp [argD] at h; exact ⟨k, d, rfl, rfl, h.symm⟩
  | k :: ks, d :: ds, j + 1, e, h => by
    obtain ⟨k', d', h1, h2, h3⟩ := argD_at (ks := ks) (ds := ds) (by simpa [argD] using h)
    exact ⟨k', d', by simpa using h1, by simpa using h2, h3⟩
theorem cap_rep {Z : AS} {H : Hp} {d : D} {v : V} {A : AS} (r : Rep G Z S0 H d v A) : RepF G (fun x => Z x ∨ A x) H (cap d) v := by
  unfold cap
  by_cases hF : isF d = true
  · rw [if_pos hF]; exact (r.frozen hF).1.mono (fun _ z => .inl z) fun _ _ _ e => e
  · rw [if_neg hF]; exact r.freeze
theorem app_some {α : Type} {xs ys : List α} {j : Nat} {e : α} (h : (xs ++ ys)[j]? = some e) : (j < xs.length ∧ xs[j]? = some e) ∨ (xs.length ≤ j ∧ ys[j - xs.length]? = some e) := by
  by_cases hj : j < xs.length
  · rw [List.getElem?_append_left hj] at h; exact .inl ⟨hj, h⟩
  · rw [List.getElem?_append_right (by omega)] at h; exact .inr ⟨by omega, h⟩
theorem mapsome {α : Type} {xs : List α} {j : Nat} {e : α} (h : (xs.map some)[j]? = some (some e)) : xs[j]? = some e := by
  obtain ⟨x, e1, e2⟩ := getMap h
  rw [e1, Option.some.inj e2]
/-- the callee's slots: all lent or frozen -/
theorem SR.args {Z : AS} {S : Nat → AS} {H : Hp} {δ : DS} {σ : St} {FS : Nat → AS} {ks : List Bool} {ds dds : List D} {vs dvs : List V} {B : Nat → AS} (sr : SR G Z S H δ σ FS) (ar : ArgR G Z (Own S) H FS ks ds vs B) (hd : Cst G dds dvs) :
    SR G (fun x => Z x ∨ Tm ks B x) (fun j x => ks[j]? = some true ∧ (Own S x ∨ B j x)) H ((argD ks ds ++ dds).map some) ((vs ++ dvs).map some) (fun _ => S0) where
  len := by
    have := (hd S0 H).1
    have := ar.l1
    have := ar.l2
    simp [argD_len ar.l2]; omega
  slot := fun j e he => by
    have he := mapsome he
    have lA := argD_len ar.l2
    rcases app_some he with ⟨hj, he⟩ | ⟨hj, he⟩
    · obtain ⟨k, d, ek, ed, rfl⟩ := argD_at he
      have hv : j < vs.length := by rw [← ar.l1]; exact (List.getElem?_eq_some_iff.mp ed).1
      have ev : vs[j]? = some vs[j] := by simp [hv]
      have rp := ar.rep j d vs[j] k ed ev ek
      refine ⟨vs[j], by rw [List.getElem?_map, List.getElem?_append_left hv, ev]; rfl, ?_⟩
      cases k with
      | true =>
        rw [if_pos rfl] at rp ⊢
        exact rp.1.lent.mono (fun _ z => .inl z) (fun x z => ⟨ek, z⟩) fun _ _ _ e => e
      | false =>
        rw [if_neg Bool.false_ne_true] at rp ⊢
        exact .fz ((cap_rep rp.1).mono (fun x z => z.imp id fun q => ⟨j, ek, q⟩) fun _ _ _ e => e) fun _ z => z
    · obtain ⟨l1, h1⟩ := hd (fun x => Z x ∨ Tm ks B x) H
      have hj2 : j - (argD ks ds).length < dvs.length := by rw [← l1]; exact (List.getElem?_eq_some_iff.mp he).1
      have e2 : dvs[j - (argD ks ds).length]? = some dvs[j - (argD ks ds).length] := by simp [hj2]
      refine ⟨dvs[j - (argD ks ds).length], ?_, .fz (h1 _ e _ he e2) fun _ z => z⟩
      have lv : vs.length = (argD ks ds).length := by rw [lA]; exact ar.l1.symm
      rw [List.getElem?_map, List.getElem?_append_right (by omega), lv, e2]
      rfl
  empt := fun _ _ _ z => z
  disj := fun _ _ _ z => z.elim
  zs := fun a z => z.elim (sr.zs a) fun q => (Tm.out ar a q).1
  ss := fun a ⟨j, hk, q⟩ => by
    rcases q with q | q
    · exact sr.ss a q
    · have hj : j < ks.length := (List.getElem?_eq_some_iff.mp hk).1
      have hd : j < ds.length := by rw [← ar.l2]; exact hj
      have hv : j < vs.length := by rw [← ar.l1]; exact hd
      have rp := ar.rep j ds[j] vs[j] true (by simp [hd]) (by simp [hv]) hk
      rw [if_pos rfl] at rp
      exact rp.1.own a q
  nz := fun a ⟨_, z⟩ => z.elim
theorem noOwn0 {x : Addr} : ¬ Own (fun _ => S0) x := fun ⟨_, z⟩ => z
/-- the caller's state behind a call that changes nothing -/
theorem SR.called {Z Z1 Z2 P2 : AS} {S : Nat → AS} {H H2 : Hp} {δ : DS} {σ : St} {FS : Nat → AS} (sr : SR G Z S H δ σ FS) (st : Step H Z1 (Own fun _ => S0) H2 Z2 P2) (h1 : ∀ x, Z x → Z1 x) (h2 : ∀ x, Z1 x → Z x ∨ ((∃ o, H x = some o) ∧ ¬ Own S x ∧ ¬ Own FS x)) (zs : ∀ a, Z2 a → ∃ o, H2 a = some o) : SR G Z2 S H2 δ σ FS where
  len := sr.len
  slot := fun i d e => let ⟨v, ev, rp⟩ := sr.slot i d e; ⟨v, ev, rp.mono (fun x z => st.zin x (h1 x z)) (fun _ z => z) fun a _ o e => st.keep a o e noOwn0⟩
  empt := sr.empt
  disj := sr.disj
  zs := zs
  ss := fun a z => let ⟨o, e⟩ := sr.ss a z; ⟨o, st.keep a o e noOwn0⟩
  nz := fun a z => by
    refine ⟨fun q => ?_, (sr.nz a z).2⟩
    rcases st.znew a q with q | q | q
    · rcases h2 a q with q | q
      · exact (sr.nz a z).1 q
      · exact q.2.2 z
    · exact noOwn0 q
    · obtain ⟨o, e⟩ := sr.own a z; rw [q] at e; cases e
theorem rd_call {F : FD} {ks : List Bool} {qt : Bool} {dds : List D} {dvs : List V} {fa : DS → Option EA} {tr : TA} (hd : Cst G dds dvs) (ha : ∀ σ H Q, rdA G W ks qt fa σ H Q → tr σ H Q) :
    ∀ σ H Q, rdE G W false qt (evCall F ks dds fa) σ H Q → tCallSD (spF G F) dvs (fun σ => WE W σ) tr σ H Q := by
  rintro σ H Q ⟨δ, Z, S, FS, sr, ⟨w, hf⟩, ok, ex⟩
  unfold evCall at hf ok ex
  refine ha σ H _ ⟨δ, Z, S, FS, sr, ?_, fun ds δ' h vs H' Z' FS' B p => ?_, fun x δ' h => ?_⟩
  · cases q : fa δ with
    | none => rw [q] at hf; cases hf
    | some w => exact ⟨w, rfl⟩
  · rw [h] at hf ok ex
    simp only at hf ok ex
    have tm := fun x t => Tm.out p.ar x t
    refine ⟨argD ks ds ++ dds, _, _, _, p.sr.args p.ar hd, ?_, fun d δr hF v H2 Z2 FS2 A p2 => ?_, fun x δr hF c dd H2 Z2 FS2 p2 => ?_⟩
    · cases q : F (argD ks ds ++ dds) with
      | none => rw [q] at hf; cases hf
      | some w => exact ⟨w, rfl⟩
    · rw [hF] at ok
      have vl := p2.vl
      rw [if_neg Bool.false_ne_true] at vl
      have nA : ∀ x, A x → H' x = none := fun x a => (p2.st.pnew x (.inr a)).elim (fun q => (noOwn0 q).elim) id
      refine ok d δ' rfl v H2 Z2 FS' A ⟨p.sr.called p2.st (fun _ z => .inl z) (fun x z => z.imp id fun q => ⟨(tm x q).1, (tm x q).2.2⟩) p2.sr.zs, ?_, ?_, fun q => ?_⟩
      · refine p.st.trans ⟨fun a o e _ => p2.st.keep a o e noOwn0, p2.st.there, fun a z => p2.st.zin a (.inl z), fun a z => ?_, fun a z => z.elim (fun q => .inl (.inl q)) fun q => .inr (nA a q)⟩
        rcases p2.st.znew a z with (z | z) | z | z
        · exact .inl z
        · exact .inr (.inl (.inr z))
        · exact (noOwn0 z).elim
        · exact .inr (.inr z)
      · rw [if_neg Bool.false_ne_true]
        refine ⟨vl.1, fun x a => ⟨(vl.2 x a).1, fun z => ?_, fun z => ?_⟩⟩
        · obtain ⟨o, e⟩ := p.sr.ss x z; rw [nA x a] at e; cases e
        · obtain ⟨o, e⟩ := p.sr.own x z; rw [nA x a] at e; cases e
      · obtain ⟨b, c⟩ := p.qq q
        exact ⟨b, c.trans fun a o e => p2.st.keep a o e noOwn0⟩
    · rw [hF] at ex
      refine ex x δ' rfl c dd H2 Z2 FS' ⟨p.sr.called p2.st (fun _ z => .inl z) (fun x z => z.imp id fun q => ⟨(tm x q).1, (tm x q).2.2⟩) p2.sr.zs, ?_, p2.xr⟩
      refine p.st.trans ⟨fun a o e _ => p2.st.keep a o e noOwn0, p2.st.there, fun a z => p2.st.zin a (.inl z), fun a z => ?_, fun a z => .inl (.inl z)⟩
      rcases p2.st.znew a z with (z | z) | z | z
      · exact .inl z
      · exact .inr (.inl (.inr z))
      · exact (noOwn0 z).elim
      · exact .inr (.inr z)
  · rw [h] at ex
    exact ex x δ' rfl
/-- the callee's slots where the first one is handed over -/
theorem SR.argsM {Z : AS} {S : Nat → AS} {H : Hp} {δ : DS} {σ : St} {FS : Nat → AS} {i : Nat} {d0 : D} {v0 : V} {ks : List Bool} {ds dds : List D} {vs dvs : List V} {B : Nat → AS} (sr : SR G Z S H δ σ FS) (e0 : δ[i]? = some (some d0)) (ev0 : σ[i]? = some (some v0))
    (ar : ArgR G Z (Own S) H FS ks ds vs B) (hc : capOk ks ds = true) (hd : Cst G dds dvs) :
    SR G (fun x => Z x ∨ Tm ks B x) (fun j x => j = 0 ∧ S i x) H ((d0 :: (ds.map cap ++ dds)).map some) ((v0 :: vs ++ dvs).map some) (fun j x => j = 0 ∧ FS i x) where
  len := by
    have := (hd S0 H).1
    have := ar.l1
    simp; omega
  slot := fun j e he => by
    have he := mapsome he
    cases j with
    | zero =>
      simp at he
      subst he
      obtain ⟨v, ev, rp⟩ := sr.slot i d0 e0
      rw [ev0] at ev
      cases ev
      exact ⟨v0, rfl, (rp.mono (fun _ z => .inl z) (fun x z => ⟨rfl, z⟩) fun _ _ _ e => e).congr fun x => ⟨fun q => q.2, fun q => ⟨rfl, q⟩⟩⟩
    | succ j =>
      have he : (ds.map cap ++ dds)[j]? = some e := by simpa using he
      rcases app_some he with ⟨hj, he⟩ | ⟨hj, he⟩
      · have hv : j < vs.length := by rw [← ar.l1]; simpa using hj
        have ev : vs[j]? = some vs[j] := by simp [hv]
        refine ⟨vs[j], ?_, .fz (caps ar hc j e vs[j] he ev) fun x z => by simp at z⟩
        show ((v0 :: (vs ++ dvs)).map some)[j + 1]? = _
        rw [List.map_cons, List.getElem?_cons_succ, List.getElem?_map, List.getElem?_append_left hv, ev]; rfl
      · obtain ⟨l1, h1⟩ := hd (fun x => Z x ∨ Tm ks B x) H
        have hj2 : j - (ds.map cap).length < dvs.length := by rw [← l1]; exact (List.getElem?_eq_some_iff.mp he).1
        have e2 : dvs[j - (ds.map cap).length]? = some dvs[j - (ds.map cap).length] := by simp [hj2]
        refine ⟨dvs[j - (ds.map cap).length], ?_, .fz (h1 _ e _ he e2) fun x z => by simp at z⟩
        have lv : vs.length = (ds.map cap).length := by rw [List.length_map]; exact ar.l1.symm
        show ((v0 :: (vs ++ dvs)).map some)[j + 1]? = _
        rw [List.map_cons, List.getElem?_cons_succ, List.getElem?_map, List.getElem?_append_right (by omega), lv, e2]; rfl
  empt := fun j h x z => by
    obtain ⟨rfl, z⟩ := z
    exact h d0 rfl
  disj := fun j k x z z' => by rw [z.1, z'.1]
  zs := fun a z => z.elim (sr.zs a) fun q => (Tm.out ar a q).1
  ss := fun a ⟨j, _, q⟩ => sr.ss a ⟨i, q⟩
  nz := fun a ⟨j, _, q⟩ => ⟨fun z => z.elim (sr.nz a ⟨i, q⟩).1 fun t => (Tm.out ar a t).2.2.2 ⟨i, q⟩, fun ⟨_, _, z⟩ => (sr.nz a ⟨i, q⟩).2 ⟨i, z⟩⟩
/-- the caller's state behind a call that changes what slot i holds -/
theorem SR.calledM {Z Z1 Z2 : AS} {S : Nat → AS} {H H2 : Hp} {δ δr : DS} {σ σc : St} {FS FS2 : Nat → AS} {i : Nat} {v0 : V} {d0 : D} {P2 : AS} (sr : SR G Z S H δ σ FS) (e0 : δ[i]? = some (some d0)) (ev0 : σ[i]? = some (some v0)) (ec : σc[0]? = some (some v0)) (st : Step H Z1 (Own fun j x => j = 0 ∧ FS i x) H2 Z2 P2) (hP : ∀ x, Own FS2 x → P2 x)
    (h1 : ∀ x, Z x → Z1 x) (h2 : ∀ x, Z1 x → Z x ∨ ((∃ o, H x = some o) ∧ ¬ Own S x ∧ ¬ Own FS x)) (r2 : SR G Z2 (fun j x => j = 0 ∧ S i x) H2 δr σc FS2) :
    SR G Z2 S H2 (δ.set i (hd0 δr)) σ (fun j x => (j = i ∧ FS2 0 x) ∨ (j ≠ i ∧ FS j x)) := by
  have hil : i < δ.length := (List.getElem?_eq_some_iff.mp e0).1
  have new : ∀ x, FS2 0 x → FS i x ∨ H x = none := fun x q => (st.pnew x (hP x ⟨0, q⟩)).imp (fun ⟨_, _, z⟩ => z) id
  have notP : ∀ j x, j ≠ i → FS j x → ¬ Own (fun j x => j = 0 ∧ FS i x) x := fun j x hj q ⟨_, _, z⟩ => hj (sr.disj j i x q z)
  refine ⟨by rw [List.length_set]; exact sr.len, fun j w ew => ?_, fun j h x q => ?_, fun j k x a b => ?_, r2.zs, fun a z => ?_, fun x ⟨j, q⟩ => ?_⟩
  · rcases set_at ew with ⟨hj, ew2⟩ | ⟨hj, ew2⟩
    · subst hj
      have e : δr[0]? = some (some w) := by
        unfold hd0 at ew2
        cases q : δr[0]? with
        | none => rw [q] at ew2; cases ew2
        | some u => rw [q] at ew2; exact congrArg some ew2
      obtain ⟨v, ev, rp⟩ := r2.slot 0 w e
      rw [ec] at ev
      cases ev
      exact ⟨v0, ev0, (rp.mono (fun _ z => z) (fun x z => z.2) fun _ _ _ e => e).congr fun x => ⟨fun q => q.elim (fun z => z.2) fun z => (z.1 rfl).elim, fun q => .inl ⟨rfl, q⟩⟩⟩
    · obtain ⟨v, ev, rp⟩ := sr.slot j w ew2
      refine ⟨v, ev, (rp.mono (fun x z => st.zin x (h1 x z)) (fun _ z => z) fun a z o e => st.keep a o e fun ⟨_, _, q⟩ => ?_).congr fun x => ⟨fun q => q.elim (fun z => (hj z.1).elim) fun z => z.2, fun q => .inr ⟨hj, q⟩⟩⟩
      rcases z with z | z | z
      · exact (sr.nz a ⟨i, q⟩).1 z
      · exact (sr.nz a ⟨i, q⟩).2 ⟨j, z⟩
      · exact hj (sr.disj j i a z q)
  · rcases q with ⟨hj, q⟩ | ⟨hj, q⟩
    · subst hj
      refine r2.empt 0 (fun w ew => h w ?_) x q
      rw [List.getElem?_set_self hil]
      unfold hd0; rw [ew]; rfl
    · refine sr.empt j (fun w ew => h w ?_) x q
      rw [List.getElem?_set_ne (Ne.symm hj)]; exact ew
  · rcases a with ⟨hj, a⟩ | ⟨hj, a⟩ <;> rcases b with ⟨hk, b⟩ | ⟨hk, b⟩
    · rw [hj, hk]
    · rcases new x a with z | z
      · exact (hk (sr.disj k i x b z)).elim
      · obtain ⟨o, e⟩ := sr.own x ⟨k, b⟩; rw [z] at e; cases e
    · rcases new x b with z | z
      · exact (hj (sr.disj j i x a z)).elim
      · obtain ⟨o, e⟩ := sr.own x ⟨j, a⟩; rw [z] at e; cases e
    · exact sr.disj j k x a b
  · obtain ⟨o, e⟩ := sr.ss a z
    exact ⟨o, st.keep a o e fun ⟨_, _, q⟩ => (sr.nz a ⟨i, q⟩).2 z⟩
  · rcases q with ⟨_, q⟩ | ⟨hj, q⟩
    · refine ⟨(r2.nz x ⟨0, q⟩).1, fun z => ?_⟩
      rcases new x q with y | y
      · exact (sr.nz x ⟨i, y⟩).2 z
      · obtain ⟨o, e⟩ := sr.ss x z; rw [y] at e; cases e
    · refine ⟨fun z => ?_, (sr.nz x ⟨j, q⟩).2⟩
      rcases st.znew x z with z | z | z
      · rcases h2 x z with z | z
        · exact (sr.nz x ⟨j, q⟩).1 z
        · exact z.2.2 ⟨j, q⟩
      · exact notP j x hj q z
      · obtain ⟨o, e⟩ := sr.own x ⟨j, q⟩; rw [z] at e; cases e
theorem rd_callM {F : FD} {i : Nat} {ks : List Bool} {qt : Bool} {dds : List D} {dvs : List V} {fr : DS → Option EA} {tr : TA} (hd : Cst G dds dvs) (ha : ∀ σ H Q, rdA G W ks qt fr σ H Q → tr σ H Q) :
    ∀ σ H Q, rdE G W false false (evCallM F i ks dds fr) σ H Q → tCallSD (spF G F) dvs (fun σ => WE W σ) (tCons (tVar i) tr) σ H Q := by
  rintro σ H Q ⟨δ, Z, S, FS, sr, ⟨w, hf⟩, ok, ex⟩
  unfold evCallM at hf ok ex
  cases e : δ[i]? with
  | none => rw [e] at hf; cases hf
  | some q =>
    cases q with
    | none => rw [e] at hf; cases hf
    | some dold =>
      simp only [e] at hf ok ex
      obtain ⟨v0, ev0, _⟩ := sr.slot i dold e
      refine ⟨v0, ev0, ?_⟩
      refine ha σ H _ ⟨δ, Z, S, FS, sr, ?_, fun ds δ' h vs H' Z' FS' B p => ?_, fun x δ' h => ?_⟩
      · cases q : fr δ with
        | none => rw [q] at hf; cases hf
        | some w => exact ⟨w, rfl⟩
      · rw [h] at hf ok ex
        simp only at hf ok ex
        cases e2 : δ'[i]? with
        | none => rw [e2] at hf; cases hf
        | some q2 =>
          cases q2 with
          | none => rw [e2] at hf; cases hf
          | some d0 =>
            simp only [e2] at hf ok ex
            by_cases hc : capOk ks ds = true
            · rw [if_pos hc] at hf ok ex
              have tm := fun x t => Tm.out p.ar x t
              have up : ∀ x, Own (fun j x => j = 0 ∧ FS' i x) x → Own FS' x ∨ Tm ks B x := fun x ⟨_, _, z⟩ => .inl ⟨i, z⟩
              have h2 : ∀ x, (Z' x ∨ Tm ks B x) → Z' x ∨ ((∃ o, H' x = some o) ∧ ¬ Own S x ∧ ¬ Own FS' x) := fun x z => z.imp id fun q => ⟨(tm x q).1, (tm x q).2.2⟩
              have big : ∀ {H2 : Hp} {Z2 P2 : AS} {FS2 : Nat → AS} {A : AS}, Step H' (fun x => Z' x ∨ Tm ks B x) (Own fun j x => j = 0 ∧ FS' i x) H2 Z2 (fun x => Own FS2 x ∨ A x) →
                  Step H' Z' (fun x => Own FS' x ∨ Tm ks B x) H2 Z2 (fun x => Own (fun j x => (j = i ∧ FS2 0 x) ∨ (j ≠ i ∧ FS' j x)) x ∨ A x) := fun {H2 Z2 P2 FS2 A} st => by
                refine ⟨fun a o e n => st.keep a o e fun z => n (up a z), st.there, fun a z => st.zin a (.inl z), fun a z => ?_, fun a z => ?_⟩
                · rcases st.znew a z with (z | z) | z | z
                  · exact .inl z
                  · exact .inr (.inl (.inr z))
                  · exact .inr (.inl (up a z))
                  · exact .inr (.inr z)
                · rcases z with ⟨j, ⟨_, z⟩ | ⟨_, z⟩⟩ | z
                  · exact (st.pnew a (.inl ⟨0, z⟩)).imp (up a) id
                  · exact .inl (.inl ⟨j, z⟩)
                  · exact (st.pnew a (.inr z)).imp (up a) id
              refine ⟨d0 :: (ds.map cap ++ dds), _, _, _, p.sr.argsM e2 ev0 p.ar hc hd, ?_, fun d δr hF v H2 Z2 FS2 A p2 => ?_, fun x δr hF c dd H2 Z2 FS2 p2 => ?_⟩
              · cases q : F (d0 :: (ds.map cap ++ dds)) with
                | none => rw [q] at hf; cases hf
                | some w => exact ⟨w, rfl⟩
              · rw [hF] at ok
                have vl := p2.vl
                rw [if_neg Bool.false_ne_true] at vl
                refine ok d _ rfl v H2 Z2 _ A ⟨p.sr.calledM e2 ev0 rfl p2.st (fun x z => .inl z) (fun _ z => .inl z) h2 p2.sr, p.st.trans (big (P2 := S0) p2.st), ?_, fun q => absurd q Bool.false_ne_true⟩
                rw [if_neg Bool.false_ne_true]
                refine ⟨vl.1, fun x a => ⟨(vl.2 x a).1, fun z => ?_, fun ⟨j, z⟩ => ?_⟩⟩
                · rcases p2.st.pnew x (.inr a) with ⟨_, _, q⟩ | q
                  · exact (p.sr.nz x ⟨i, q⟩).2 z
                  · obtain ⟨o, e⟩ := p.sr.ss x z; rw [q] at e; cases e
                · rcases z with ⟨_, z⟩ | ⟨hj, z⟩
                  · exact (vl.2 x a).2.2 ⟨0, z⟩
                  · rcases p2.st.pnew x (.inr a) with ⟨_, _, q⟩ | q
                    · exact hj (p.sr.disj j i x z q)
                    · obtain ⟨o, e⟩ := p.sr.own x ⟨j, z⟩; rw [q] at e; cases e
              · rw [hF] at ex
                have st2 : Step H' (fun x => Z' x ∨ Tm ks B x) (Own fun j x => j = 0 ∧ FS' i x) H2 Z2 (fun x => Own FS2 x ∨ S0 x) := p2.st.sub fun a z => z.elim id fun q => q.elim
                exact ex x _ rfl c dd H2 Z2 _ ⟨p.sr.calledM e2 ev0 rfl p2.st (fun x z => z) (fun _ z => .inl z) h2 p2.sr, (p.st.trans (big (P2 := S0) st2)).sub fun a z => .inl z, p2.xr⟩
            · rw [if_neg hc] at hf; cases hf
      · rw [h] at ex
        exact ex x δ' rfl
/-- a function's body keeps its promise -/
theorem rd_fn {n np : Nat} {m : Bool} {ev : DS → Option ES} {t : TS} {N : List Str} {vs : List V} {H : Hp} {Q : VK} {E : XK} (hN : N.length = n) (hnp : np ≤ n) (hm : m = true → 0 < np)
    (hs : ∀ D σ H, rdS G (fun c dd _ H => E c dd H) n (if m = true then [0] else []) ev D σ H → t D σ H) (h : spF G (fnOf n np m ev) vs H Q E) : t { nx := fun _ H' => Q .non H', rt := Q } (start N vs) H := by
  obtain ⟨ds, Z, S, FS, sr, ⟨r, hr⟩, ok, ex⟩ := h
  have l1 := fnOf_len hr
  have l2 : ds.length = vs.length := by simpa using sr.len
  have hst : start N vs = vs.map some ++ List.replicate (n - vs.length) none := by rw [← hN]; rfl
  have srs : SR G Z S H (ds.map some ++ List.replicate (n - np) none) (start N vs) FS := by
    rw [hst]
    refine ⟨by simp; omega, fun i d e => ?_, fun i h x z => ?_, sr.disj, sr.zs, sr.ss, sr.nz⟩
    · rcases app_some e with ⟨hi, e⟩ | ⟨hi, e⟩
      · obtain ⟨v, ev, rp⟩ := sr.slot i d e
        have hv : i < (vs.map some).length := by simpa [← l2] using hi
        exact ⟨v, by rw [List.getElem?_append_left hv]; exact ev, rp⟩
      · have := List.getElem?_eq_some_iff.mp e
        obtain ⟨_, q⟩ := this
        simp at q
    · refine sr.empt i (fun d e => h d ?_) x z
      have hi : i < (ds.map some).length := (List.getElem?_eq_some_iff.mp e).1
      rw [List.getElem?_append_left hi]; exact e
  unfold fnOf at hr ok ex
  rw [if_pos l1] at hr ok ex
  -- the state at the end, seen by the caller
  have out : ∀ {δ' : DS} {σ' : St} {H' : Hp} {Z' : AS} {FS' : Nat → AS}, SR G Z' S H' δ' σ' FS' → Pin (if m = true then [0] else []) (start N vs) σ' → SR G Z' S H' (outD np m δ') (vs.map some) (fun j x => (m = true ∧ j = 0) ∧ FS' 0 x) := fun {δ' σ' H' Z' FS'} r p => by
    have rep : ∀ {k : Nat} {j : Nat} {d : D}, (List.replicate k (none : Option D))[j]? = some (some d) → False := fun {k j d} e => by
      obtain ⟨_, q⟩ := List.getElem?_eq_some_iff.mp e
      simp at q
    refine ⟨?_, fun j d e => ?_, fun j h x z => ?_, fun j k x a b => by rw [a.1.2, b.1.2], r.zs, r.ss, fun x ⟨j, z⟩ => r.nz x ⟨0, z.2⟩⟩
    · unfold outD
      cases hm' : m with
      | true => have := hm hm'; simp; omega
      | false => simp; omega
    · unfold outD at e
      cases hm' : m with
      | false => rw [hm', if_neg Bool.false_ne_true] at e; exact (rep e).elim
      | true =>
        rw [hm', if_pos rfl] at e
        cases j with
        | succ j => exact (rep (by simpa using e)).elim
        | zero =>
          simp at e
          have e1 : δ'[0]? = some (some d) := by
            unfold hd0 at e
            cases q : δ'[0]? with
            | none => rw [q] at e; cases e
            | some u => rw [q] at e; exact congrArg some e
          obtain ⟨v, ev, rp⟩ := r.slot 0 d e1
          rw [hm', if_pos rfl] at p
          have := p.2 0 (by simp)
          rw [ev, hst] at this
          have hv : 0 < (vs.map some).length := by have := hm hm'; simp; omega
          rw [List.getElem?_append_left hv] at this
          exact ⟨v, this.symm, rp.congr fun x => ⟨fun q => q.2, fun q => ⟨⟨rfl, rfl⟩, q⟩⟩⟩
    · obtain ⟨⟨hm', rfl⟩, z⟩ := z
      refine r.empt 0 (fun d e => h d ?_) x z
      unfold outD
      rw [if_pos hm']
      show some (hd0 δ') = _
      unfold hd0; rw [e]; rfl
  have own : ∀ {FS' : Nat → AS} x, Own (fun j x => (m = true ∧ j = 0) ∧ FS' 0 x) x → Own FS' x := fun x ⟨_, _, z⟩ => ⟨0, z⟩
  cases q : ev (ds.map some ++ List.replicate (n - np) none) with
  | none => rw [q] at hr; cases hr
  | some w =>
    rw [q] at hr ok ex
    refine hs _ _ H ⟨by rw [hst]; simp; omega, _, Z, S, FS, srs, w, q, ?_⟩
    obtain ⟨o, δo⟩ := w
    cases o with
    | bk => cases hr
    | ct => cases hr
    | nx =>
      refine ⟨fun δ' e' σ' H' Z' FS' p => ?_, fun _ e' => (by cases e'), fun _ e' => (by cases e'), fun _ _ e' => (by cases e'), fun _ _ e' => (by cases e')⟩
      cases e'
      refine ok .non _ rfl .non H' Z' _ S0 ⟨out p.sr p.pn, p.st.sub fun a z => z.elim (own a) fun q => q.elim, ?_, fun q => absurd q Bool.false_ne_true⟩
      rw [if_neg Bool.false_ne_true]
      exact ⟨.fz .non fun _ z => z, fun x z => z.elim⟩
    | rt d =>
      refine ⟨fun _ e' => (by cases e'), fun _ e' => (by cases e'), fun _ e' => (by cases e'), fun d δ' e' v σ' H' Z' FS' A p => ?_, fun _ _ e' => (by cases e')⟩
      cases e'
      refine ok d _ rfl v H' Z' _ A ⟨out p.sr p.pn, p.st.sub fun a z => z.imp (own a) id, ?_, fun q => absurd q Bool.false_ne_true⟩
      rw [if_neg Bool.false_ne_true]
      exact ⟨p.vl.1, fun x a => ⟨(p.vl.2 x a).1, (p.vl.2 x a).2.1, fun z => (p.vl.2 x a).2.2 (own x z)⟩⟩
    | ex x =>
      refine ⟨fun _ e' => (by cases e'), fun _ e' => (by cases e'), fun _ e' => (by cases e'), fun _ _ e' => (by cases e'), fun x δ' e' c dd σ' H' Z' FS' p => ?_⟩
      cases e'
      exact ex x _ rfl c dd H' Z' _ ⟨out p.sr p.pn, p.st.sub fun a z => own a z, p.xr⟩
end
end PD
/-! P, part 12: sorted, sum, max, min, repr, slices. -/
namespace PD
open PySem L2 PyProof.Rows

def leD (a b : D) : Bool := W.dataLe false toP a b
/-- all of one kind, each place, and in an order -/
def tup1 : PyData → Bool
  | .tuple (_ :: _) => true
  | _ => false
def noTup : PyData → Bool
  | .tuple _ => false
  | .none => false
  | _ => true
def sortOk (xs : List D) : Bool := dpL 60 xs && (xs.all fun a => xs.all fun b => W.alike (toP a) (toP b)) && ((xs.all fun a => tup1 (toP a)) || (xs.all fun a => noTup (toP a))) && decide (xs.length ≤ 1000000)
def gSorted : List D → Option D
  | [.lst m xs] => if shal m && sortOk xs then some (.lst .o (xs.mergeSort leD)) else none
  | _ => none
def intsOf : List D → Option (List Int)
  | [] => some []
  | .int i :: r => (intsOf r).map (i :: ·)
  | _ :: _ => none
def gSum : List D → Option D
  | [.lst _ xs] => (intsOf xs).map fun ns => .int ns.sum
  | _ => none
def gMax2 : List D → Option D
  | [.int i, .int j] => some (.int (if j > i then j else i))
  | _ => none
def gMin2 : List D → Option D
  | [.int i, .int j] => some (.int (if j < i then j else i))
  | _ => none
def gRepr : List D → Option D
  | [.bl b] => some (.str (Str.ofString (if b then "True" else "False")))
  | _ => none
section
variable {G : GC} {X : Cx}
theorem intsOf_eq : ∀ {xs : List D} {ns : List Int}, intsOf xs = some ns → xs = ns.map .int
  | [], ns, h => by cases h; rfl
  | .int i :: r, ns, h => by
    rw [intsOf] at h
    cases e : intsOf r with
    | none => rw [e] at h; cases h
    | some m => rw [e] at h; cases h; rw [intsOf_eq e]; rfl
  | .non :: _, _, h => by cases h
  | .bl _ :: _, _, h => by cases h
  | .str _ :: _, _, h => by cases h
  | .tup _ :: _, _, h => by cases h
  | .lst _ _ :: _, _, h => by cases h
  | .dic _ _ :: _, _, h => by cases h
  | .dit _ _ :: _, _, h => by cases h
  | .ins _ _ _ :: _, _, h => by cases h
  | .exc _ _ :: _, _, h => by cases h
theorem ints_V {Z S : AS} {H : Hp} {ns : List Int} {vs : List V} (hl : (ns.map D.int).length = vs.length) (he : ∀ (i : Nat) d w, (ns.map D.int)[i]? = some d → vs[i]? = some w → ∃ B, Rep G Z S H d w B) : vs = ns.map V.int := by
  refine List.ext_getElem? fun i => ?_
  by_cases hi : i < ns.length
  · have h2 : i < vs.length := by rw [← hl]; simpa using hi
    obtain ⟨B, r⟩ := he i (.int ns[i]) vs[i] (by simp [hi]) (by simp [h2])
    have := r.intV
    simp [h2, hi, this]
  · have h2 : ¬ i < vs.length := by rw [← hl]; simpa using hi
    rw [List.getElem?_eq_none (by omega), List.getElem?_eq_none (by simpa using hi)]
theorem ok_sum (h : XO G X) : CallOk G X (.builtin "sum") gSum := .of (cr_sum h.calm) fun xs H Q ⟨Z, S, ds, d, zs, a, e, k⟩ => by
  unfold gSum at e
  split at e
  · rename_i m xs'
    cases q : intsOf xs' with
    | none => rw [q] at e; cases e
    | some ns =>
      rw [q] at e
      cases e
      obtain ⟨_, A, rfl, r1⟩ := argv1 a
      obtain ⟨p, vs, rfl, sq, hl, he, _⟩ := r1.lstV
      rw [← h.K] at sq
      rw [intsOf_eq q] at hl he
      rw [ints_V hl fun i d w e1 e2 => let ⟨B, r, _⟩ := he i d w e1 e2; ⟨B, r⟩] at sq
      exact ⟨p, ns, rfl, sq, k.int⟩
  · cases e
theorem ok_max2 (h : XO G X) : CallOk G X (.builtin "max") gMax2 := .of (call_max2 h.calm) fun xs H Q ⟨Z, S, ds, d, zs, a, e, k⟩ => by
  unfold gMax2 at e
  split at e
  · cases e
    obtain ⟨x', y', A, B, ev, r1, r2⟩ := argv2 a
    cases ev
    rw [r1.intV, r2.intV]
    exact ⟨_, _, rfl, k.int⟩
  · cases e
theorem ok_min2 (h : XO G X) : CallOk G X (.builtin "min") gMin2 := .of (call_min2 h.calm) fun xs H Q ⟨Z, S, ds, d, zs, a, e, k⟩ => by
  unfold gMin2 at e
  split at e
  · cases e
    obtain ⟨x', y', A, B, ev, r1, r2⟩ := argv2 a
    cases ev
    rw [r1.intV, r2.intV]
    exact ⟨_, _, rfl, k.int⟩
  · cases e
theorem ok_repr (h : XO G X) : CallOk G X (.builtin "repr") gRepr := by
  intro pins s σ H xs us Q I rx ⟨Z, S, ds, d, zs, a, e, k⟩
  unfold gRepr at e
  split at e
  · rename_i b
    cases e
    obtain ⟨_, A, rfl, r1⟩ := argv1 a
    rw [r1.blV] at rx
    match us, rx with
    | [u], .cons r .nil =>
      cases r
      refine PySem.P.repr_of_bool ⟨.str _, H, Inv.tok I _, ?_, k.str⟩
      cases b <;> exact ⟨_, rfl⟩
  · cases e
theorem eachIs_of {α β : Type} {R : α → β → Prop} : ∀ {xs : List α} {ys : List β}, xs.length = ys.length → (∀ (i : Nat) x y, xs[i]? = some x → ys[i]? = some y → R x y) → W.EachIs R xs ys
  | [], [], _, _ => .nil
  | x :: xs, y :: ys, hl, h => .cons (h 0 x y rfl rfl) (eachIs_of (by simpa using hl) fun i a b e1 e2 => h (i + 1) a b (by simpa using e1) (by simpa using e2))
  | [], _ :: _, hl, _ => by simp at hl
  | _ :: _, [], hl, _ => by simp at hl
theorem eachIs_vals : ∀ {us : List Value} {bs : List (D × V)}, W.EachIs (fun u b => RelV b.2 u) us bs → Vals (bs.map (·.2)) us
  | _, _, .nil => .nil
  | _, _, .cons r t => .cons r (eachIs_vals t)
theorem zip_at {α β : Type} {xs : List α} {ys : List β} {i : Nat} {p : α × β} (h : (xs.zip ys)[i]? = some p) : xs[i]? = some p.1 ∧ ys[i]? = some p.2 := by
  rw [List.getElem?_zip_eq_some] at h
  exact h
theorem sort_core {pins : List (Addr × Obj)} {σ : L2.St} {H : Hp} {s : Shared} {Z S : AS} {Q : VK} {xs : List D} {vs : List V} {l : Addr} {its : List Value} (h : XO G X) (I : Inv X pins σ H s) (hv : Vals vs its) (hl : xs.length = vs.length) (he : ∀ (i : Nat) d w, xs[i]? = some d → vs[i]? = some w → RepF G Z H d w) (zs : ∀ a, Z a → ∃ o, H a = some o)
    (ho : sortOk xs = true) (k : OkV G Z H (.lst .o (xs.mergeSort leD)) Q) (hL : s.heap.IsList l its.toArray) : wpAny (model X.prog X.w) X.A (call (.builtin "sorted") [.ref l]) (EP X pins σ Q) X.xe s := by
  unfold sortOk at ho
  simp only [Bool.and_eq_true, decide_eq_true_eq] at ho
  obtain ⟨⟨⟨h1, h2⟩, h3⟩, h4⟩ := ho
  rw [dpL_all, List.all_eq_true] at h1
  let bs : List (D × V) := xs.zip vs
  have b1 : bs.map (·.1) = xs := by
    show (xs.zip vs).map Prod.fst = xs
    exact List.map_fst_zip (by omega)
  have b2 : bs.map (·.2) = vs := by
    show (xs.zip vs).map Prod.snd = vs
    exact List.map_snd_zip (by omega)
  have bl : bs.length = xs.length := by rw [← b1, List.length_map]
  have bm : ∀ b ∈ bs, b.1 ∈ xs := fun b hb => by rw [← b1]; exact List.mem_map_of_mem hb
  have brep : ∀ b ∈ bs, RepF G Z H b.1 b.2 := fun b hb => by
    obtain ⟨i, e⟩ := List.mem_iff_getElem?.mp hb
    obtain ⟨e1, e2⟩ := zip_at e
    exact he i b.1 b.2 e1 e2
  have hi : bs.length = its.length := by rw [bl, hl]; exact hv.length
  refine W.sorted_data (β := D × V) (bs := bs) (vs := its) (enc := fun b => toP b.1) (R := fun u b => RelV b.2 u) hL (eachIs_of hi.symm fun i u b e1 e2 => ?_) (eachIs_of hi.symm fun i u b e1 e2 => ?_) ?_ ?_ ?_ ?_ fun out hout eo => ?_
  · obtain ⟨f1, f2⟩ := zip_at e2
    obtain ⟨v, g1, g2⟩ := vals_at hv e1
    rw [f2] at g1; cases g1; exact g2
  · obtain ⟨f1, f2⟩ := zip_at e2
    obtain ⟨v, g1, g2⟩ := vals_at hv e1
    rw [f2] at g1; cases g1
    exact (Rep.fz (S := S) (A := S0) (he i b.1 b.2 f1 f2) fun _ z => z).reads h.K I 60 (h1 _ (List.mem_of_getElem? f1)) g2
  · intro d hd d' hd'
    obtain ⟨b, hb, rfl⟩ := List.mem_map.mp hd
    obtain ⟨b', hb', rfl⟩ := List.mem_map.mp hd'
    rw [List.all_eq_true] at h2
    exact List.all_eq_true.mp (h2 _ (bm b hb)) _ (bm b' hb')
  · rw [Bool.or_eq_true, List.all_eq_true, List.all_eq_true] at h3
    rcases h3 with h3 | h3
    · refine .inl fun d hd => ?_
      obtain ⟨b, hb, rfl⟩ := List.mem_map.mp hd
      have := h3 _ (bm b hb)
      show ∃ x r, toP b.1 = _
      cases q : toP b.1 with
      | tuple l =>
        rw [q] at this
        cases l with
        | nil => simp [tup1] at this
        | cons x r => exact ⟨x, r, rfl⟩
      | _ => rw [q] at this; simp [tup1] at this
    · refine .inr fun d hd => ?_
      obtain ⟨b, hb, rfl⟩ := List.mem_map.mp hd
      have := h3 _ (bm b hb)
      show toP b.1 ≠ _ ∧ _
      cases q : toP b.1 <;> rw [q] at this <;> simp_all [noTup]
  · rw [bl]; exact Nat.le_trans h4 (by decide)
  · intro b hb
    obtain ⟨p1, d1⟩ := dp_plain 60 b.1 (h1 _ (bm b hb))
    have := h.hu
    show X.A.units + 2 + (toP b.1).depth < cLine
    omega
  · obtain ⟨m, ns, _⟩ := I.loc
    obtain ⟨c, _, news, _, keep⟩ := W.sorted_news (h₀ := ({ objs := #[] } : Heap)) (news := []) ⟨ns, fun b o e => by simp [Heap.get?] at e, Nat.zero_le _⟩ (fun p hp => by simp at hp) its out
    have got := (news _ (List.mem_cons_self)).1
    have hle : s.heap.objs.size ≤ s.heap.objs.size + 1 := Nat.le_succ _
    have hnone : H (s.heap.objs.size + 1) = none := I.hok.fresh hle
    have mm : (bs.mergeSort (W.dataLe false fun b => toP b.1)).map (·.1) = xs.mergeSort leD := by
      rw [List.map_mergeSort (r := W.dataLe false fun b : D × V => toP b.1) (s := leD) (f := Prod.fst) fun a _ b _ => rfl, b1]
    have mem : ∀ b ∈ bs.mergeSort (W.dataLe false fun b => toP b.1), b ∈ bs := fun b hb => (List.mergeSort_perm bs _).mem_iff.mp hb
    let ys : List V := (bs.mergeSort (W.dataLe false fun b => toP b.1)).map (·.2)
    have hys : Vals ys out := eachIs_vals eo
    refine ⟨.ref (s.heap.objs.size + 1), upd H (s.heap.objs.size + 1) (.lst ys), Inv.laid I keep hle ?_, rfl, ?_⟩
    · rw [ObjOk.eq_1]
      refine ⟨?_, out, c, hys, got⟩
      have : ys.length = xs.length := by
        show ((bs.mergeSort _).map (·.2)).length = _
        rw [List.length_map, List.length_mergeSort, bl]
      rw [this]; exact Nat.le_trans h4 (by decide)
    · refine k.lst zs ?_ (fun i d w e1 e2 => ?_) hnone
      · rw [← mm, List.length_map]; show _ = ((bs.mergeSort _).map (·.2)).length; rw [List.length_map]
      · rw [← mm] at e1
        obtain ⟨b, f1, rfl⟩ := getMap e1
        obtain ⟨b', f2, rfl⟩ := getMap (show ((bs.mergeSort (W.dataLe false fun b => toP b.1)).map (·.2))[i]? = some w from e2)
        rw [f1] at f2; cases f2
        exact brep b (mem b (List.mem_of_getElem? f1))
theorem ok_sorted (h : XO G X) : CallOk G X (.builtin "sorted") gSorted := by
  intro pins s σ H xs us Q I rx ⟨Z, S, ds, d, zs, a, e, k⟩
  unfold gSorted at e
  split at e
  · split at e
    · rename_i m xs' ho
      rw [Bool.and_eq_true] at ho
      cases e
      obtain ⟨_, A, rfl, r1⟩ := argv1 a
      obtain ⟨p, vs, rfl, sq, hl, _, _, hf⟩ := r1.lstV
      rw [← h.K] at sq
      obtain ⟨its, rv, pl, _⟩ := I.list sq
      match us, rx with
      | [u], .cons r .nil =>
        cases r
        obtain ⟨o, c, g1, g2, _, g3⟩ := pl
        exact sort_core (S := S) h I rv hl (hf ho.1) zs ho.2 k ⟨o, g1, g2, c, g3⟩
    · cases e
  · cases e
end
end PD
/-! P, part 13: lists changed, chains. -/
namespace PD
open PySem L2

/-- name.append(e) -/
def evApp (i : Nat) (f : DS → Option ER) : DS → Option ES := fun δ => match δ[i]? with
  | some (some (.lst _ _)) => match f δ with
    | none => none
    | some (.ex x, δ') => some (.ex x, δ')
    | some (.ok d, δ') => match δ'[i]? with
      | some (some (.lst .o xs)) => if xs.length < 1000000 then some (.nx, δ'.set i (some (.lst .o (xs ++ [cap d])))) else none
      | _ => none
  | _ => none
/-- name[k] = e -/
def evSet (i : Nat) (f fk : DS → Option ER) : DS → Option ES := fun δ => match f δ with
  | none => none
  | some (.ex x, δ') => some (.ex x, δ')
  | some (.ok d, δ') => match δ'[i]? with
    | some (some _) => match fk δ' with
      | none => none
      | some (.ex x, δ2) => some (.ex x, δ2)
      | some (.ok kd, δ2) => match kd, δ2[i]? with
        | .int k, some (some (.lst .o xs)) => match ixN xs.length k with
          | some j => some (.nx, δ2.set i (some (.lst .o (xs.set j (cap d)))))
          | none => none
        | _, _ => none
    | _ => none
/-- a < b < c -/
def evChain (g g' : List D → Option D) (fa fb fc : DS → Option ER) : DS → Option ER := fun δ => match fa δ with
  | none => none
  | some (.ex x, δ1) => some (.ex x, δ1)
  | some (.ok a, δ1) => if !isF a then none else match fb δ1 with
    | none => none
    | some (.ex x, δ2) => some (.ex x, δ2)
    | some (.ok b, δ2) => if !isF b then none else match g [a, b] with
      | some (.bl true) => match fc δ2 with
        | none => none
        | some (.ex x, δ3) => some (.ex x, δ3)
        | some (.ok c, δ3) => if !isF c then none else match g' [b, c] with
          | some (.bl k) => some (.ok (.bl k), δ3)
          | _ => none
      | some (.bl false) => some (.ok (.bl false), δ2)
      | _ => none
section
variable {G : GC} {W : WX} {n : Nat} {pn : List Nat}
/-- what slot i holds is written -/
theorem SR.write {Z : AS} {S : Nat → AS} {H : Hp} {δ : DS} {σ : St} {FS : Nat → AS} {i : Nat} {a : Addr} {o : HO} {v : V} {d' : D} {B : AS} (r : SR G Z S H δ σ FS) (ev : σ[i]? = some (some v)) (ha : FS i a) (hil : i < δ.length) (rp : Rep G Z (S i) (upd H a o) d' v B) (hB : ∀ x, B x → FS i x) :
    SR G Z S (upd H a o) (δ.set i (some d')) σ (fun j x => (j = i ∧ B x) ∨ (j ≠ i ∧ FS j x)) ∧ Step H Z (Own FS) (upd H a o) Z (Own fun j x => (j = i ∧ B x) ∨ (j ≠ i ∧ FS j x)) := by
  have nz := r.nz a ⟨i, ha⟩
  have own : ∀ x, Own (fun j x => (j = i ∧ B x) ∨ (j ≠ i ∧ FS j x)) x → Own FS x := fun x ⟨j, q⟩ => q.elim (fun z => ⟨i, hB x z.2⟩) fun z => ⟨j, z.2⟩
  have there : ∀ x u, H x = some u → ∃ u', upd H a o x = some u' := fun x u e => by
    by_cases h : x = a
    · rw [h]; exact ⟨_, upd_same⟩
    · rw [upd_ne h]; exact ⟨_, e⟩
  refine ⟨⟨by rw [List.length_set]; exact r.len, fun j w ew => ?_, fun j h x q => ?_, fun j k x a b => ?_, fun b z => ?_, fun b z => ?_, fun x z => r.nz x (own x z)⟩, ⟨fun x u e q => ?_, there, fun _ z => z, fun _ z => .inl z, fun x z => .inl (own x z)⟩⟩
  · rcases set_at ew with ⟨hj, ew2⟩ | ⟨hj, ew2⟩
    · cases ew2
      subst hj
      exact ⟨v, ev, rp.congr fun x => ⟨fun q => q.elim (fun z => z.2) fun z => (z.1 rfl).elim, fun q => .inl ⟨rfl, q⟩⟩⟩
    · obtain ⟨u, eu, rp'⟩ := r.slot j w ew2
      refine ⟨u, eu, (rp'.mono (fun _ z => z) (fun _ z => z) fun b z o' e => ?_).congr fun x => ⟨fun q => q.elim (fun z => (hj z.1).elim) fun z => z.2, fun q => .inr ⟨hj, q⟩⟩⟩
      rw [upd_ne]; exact e
      rintro rfl
      rcases z with z | z | z
      · exact nz.1 z
      · exact nz.2 ⟨j, z⟩
      · exact hj (r.disj j i _ z ha)
  · rcases q with ⟨hj, q⟩ | ⟨hj, q⟩
    · subst hj
      exact h d' (by rw [List.getElem?_set_self hil])
    · refine r.empt j (fun w ew => h w ?_) x q
      rw [List.getElem?_set_ne (Ne.symm hj)]; exact ew
  · rcases a with ⟨hj, a⟩ | ⟨hj, a⟩ <;> rcases b with ⟨hk, b⟩ | ⟨hk, b⟩
    · rw [hj, hk]
    · exact (hk (r.disj k i x b (hB x a))).elim
    · exact (hj (r.disj j i x a (hB x b))).elim
    · exact r.disj j k x a b
  · obtain ⟨u, e⟩ := r.zs b z; exact there b u e
  · obtain ⟨u, e⟩ := r.ss b z; exact there b u e
  · rw [upd_ne]; exact e
    rintro rfl
    exact q ⟨i, ha⟩
theorem own_put2 {FS : Nat → AS} {x : Addr} {i : Nat} : True := trivial
/-- an owned list in slot i -/
theorem SR.lstO {Z : AS} {S : Nat → AS} {H : Hp} {δ : DS} {σ : St} {FS : Nat → AS} {i : Nat} {xs : List D} (r : SR G Z S H δ σ FS) (e : δ[i]? = some (some (.lst .o xs))) : ∃ a vs, σ[i]? = some (some (.ref a)) ∧ H a = some (.lst vs) ∧ xs.length = vs.length ∧ (∀ (j : Nat) d w, xs[j]? = some d → vs[j]? = some w → RepF G Z H d w) ∧ ∀ x, FS i x ↔ x = a := by
  obtain ⟨v, ev, rp⟩ := r.slot i _ e
  cases rp with
  | fz h _ => exact absurd (show false = true from frz_of h) Bool.false_ne_true
  | lo h hl he hA => exact ⟨_, _, ev, h, hl, he, hA⟩
theorem rd_app {qt : Bool} {i : Nat} {f : DS → Option ER} {te : TE} (hK : True) (ha : ∀ σ H Q, rdE G W false qt f σ H Q → te σ H Q) : ∀ D σ H, rdS G W n pn (evApp i f) D σ H → tDrop (tBM G.K "list" rAppend (tVar i) (tCons te tNil)) D σ H := by
  rintro D σ H ⟨hn, δ, Z, S, FS, sr, r, hr, w⟩
  unfold evApp at hr
  split at hr
  · rename_i m0 xs0 e0
    obtain ⟨v0, ev0, rp0⟩ := sr.slot i _ e0
    obtain ⟨a0, vs0, rfl, sq0, _⟩ := rp0.lstV
    refine ⟨_, ev0, .inl ⟨rfl, _, sq0⟩, ?_⟩
    refine ha σ H _ ⟨δ, Z, S, FS, sr, ?_, fun d δ' h v H' Z' FS' A p => ?_, fun x δ' h c dd H' Z' FS' p => ?_⟩
    · cases q : f δ with
      | none => rw [q] at hr; cases hr
      | some w => exact ⟨w, rfl⟩
    · rw [h] at hr
      simp only at hr
      split at hr
      · rename_i xs e1
        split at hr
        · rename_i hz
          cases hr
          obtain ⟨rf, srC, stC⟩ := p.cap
          obtain ⟨a, vs, ev, ha', hl, he, hA⟩ := srC.lstO e1
          rw [ev0] at ev
          cases ev
          have nZ := (srC.nz a0 ⟨i, (hA a0).mpr rfl⟩).1
          have hil : i < δ'.length := (List.getElem?_eq_some_iff.mp e1).1
          have keep : ∀ x, (Z' x ∨ A x) → x ≠ a0 := fun x z q => nZ (q ▸ z)
          have rp : Rep G (fun x => Z' x ∨ A x) (S i) (upd H' a0 (.lst (vs ++ [v]))) (.lst .o (xs ++ [cap d])) (.ref a0) (fun x => x = a0) :=
            .lo upd_same (by simp [hl]) (app_at hl (fun j x y e1 e2 => (he j x y e1 e2).mono (fun _ z => z) fun b z o e => by rw [upd_ne (keep b z)]; exact e) fun j x y e1 e2 => by
              cases j with
              | zero =>
                simp at e1 e2
                subst e1 e2
                exact rf.mono (fun _ z => z) fun b z o e => by rw [upd_ne (keep b z)]; exact e
              | succ j => simp at e1) fun _ => Iff.rfl
          obtain ⟨sr2, st2⟩ := srC.write ev0 ((hA a0).mpr rfl) hil rp fun x q => (hA x).mpr q
          refine ⟨a0, vs, v, rfl, rfl, ha', by rw [← hl, sizeLine_eq]; omega, ?_⟩
          exact w.nx _ rfl σ _ _ _ ⟨sr2, stC.trans st2, Pin.refl _ _⟩
        · cases hr
      · cases hr
    · rw [h] at hr; cases hr
      exact w.ex x _ rfl c dd σ H' Z' FS' p.q
  · cases hr
theorem rd_set {q1 q2 vk : Bool} {i : Nat} {f fk : DS → Option ER} {te ti : TE} (ha : ∀ σ H Q, rdE G W false q1 f σ H Q → te σ H Q) (hk : ∀ σ H Q, rdE G W vk q2 fk σ H Q → ti σ H Q) : ∀ D σ H, rdS G W n pn (evSet i f fk) D σ H → tAsg te (L2.gSub (tVar i) ti rSetL) D σ H := by
  rintro D σ H ⟨hn, δ, Z, S, FS, sr, r, hr, w⟩
  unfold evSet at hr
  refine ha σ H _ ⟨δ, Z, S, FS, sr, ?_, fun d δ' h v H' Z' FS' A p => ?_, fun x δ' h c dd H' Z' FS' p => ?_⟩
  · cases q : f δ with
    | none => rw [q] at hr; cases hr
    | some w => exact ⟨w, rfl⟩
  · rw [h] at hr
    simp only at hr
    split at hr
    · rename_i d0 e0
      obtain ⟨rf, srC, stC⟩ := p.cap
      obtain ⟨v0, ev0, _⟩ := srC.slot i _ e0
      refine ⟨v0, ev0, ?_⟩
      refine hk σ H' _ ⟨δ', _, S, FS', srC, ?_, fun kd δ2 h2 kv H2 Z2 FS2 A2 p2 => ?_, fun x δ2 h2 c dd H2 Z2 FS2 p2 => ?_⟩
      · cases q : fk δ' with
        | none => rw [q] at hr; cases hr
        | some w => exact ⟨w, rfl⟩
      · rw [h2] at hr
        simp only at hr
        split at hr
        · rename_i k xs e2
          split at hr
          · rename_i j hj
            cases hr
            have kv' : kv = .int k := by
              have vl := p2.vl
              split at vl
              · exact vl.1.intV
              · exact vl.1.intV
            subst kv'
            obtain ⟨a, vs, ev, ha', hl, he, hA⟩ := p2.sr.lstO e2
            rw [ev0] at ev
            cases ev
            have rf2 : RepF G Z2 H2 (cap d) v := rf.step p2.st fun x z => (srC.nz x z).1
            have nZ := (p2.sr.nz a ⟨i, (hA a).mpr rfl⟩).1
            have hil : i < δ2.length := (List.getElem?_eq_some_iff.mp e2).1
            have keep : ∀ x, Z2 x → x ≠ a := fun x z q => nZ (q ▸ z)
            have rp : Rep G Z2 (S i) (upd H2 a (.lst (vs.set j v))) (.lst .o (xs.set j (cap d))) (.ref a) (fun x => x = a) := by
              refine .lo upd_same (by simp [hl]) (fun l x y e1 e2 => ?_) fun _ => Iff.rfl
              by_cases hlj : l = j
              · subst hlj
                have l1 : l < xs.length := by have := (List.getElem?_eq_some_iff.mp e1).1; simpa using this
                have l2 : l < vs.length := hl ▸ l1
                rw [List.getElem?_set_self l1] at e1
                rw [List.getElem?_set_self l2] at e2
                cases e1; cases e2
                exact rf2.mono (fun _ z => z) fun b z o e => by rw [upd_ne (keep b z)]; exact e
              · rw [List.getElem?_set_ne (Ne.symm hlj)] at e1 e2
                exact (he l x y e1 e2).mono (fun _ z => z) fun b z o e => by rw [upd_ne (keep b z)]; exact e
            obtain ⟨sr2, st2⟩ := p2.sr.write ev0 ((hA a).mpr rfl) hil rp fun x q => (hA x).mpr q
            refine ⟨a, vs, k, j, rfl, rfl, ha', by rw [← hl]; exact hj, ?_⟩
            exact w.nx _ rfl σ _ _ _ ⟨sr2, (stC.trans (p2.st.sub fun x z => .inl z)).trans st2, Pin.refl _ _⟩
          · cases hr
        · cases hr
      · rw [h2] at hr; cases hr
        exact w.ex x _ rfl c dd σ H2 Z2 FS2 ⟨p2.sr, stC.trans p2.st, p2.xr, Pin.refl _ _⟩
    · cases hr
  · rw [h] at hr; cases hr
    exact w.ex x _ rfl c dd σ H' Z' FS' p.q
/-- a frozen value of an expression -/
theorem PostE.fzn {vw qt : Bool} {S : Nat → AS} {σ : St} {H H1 : Hp} {Z Z1 : AS} {FS FS1 : Nat → AS} {δ1 : DS} {d : D} {v : V} {A : AS} (a : PostE G S vw qt σ H Z FS d δ1 v H1 Z1 FS1 A) (h : isF d = true) : RepF G Z1 H1 d v ∧ PostB G S qt σ H Z FS δ1 H1 Z1 FS1 := by
  refine ⟨?_, a.b⟩
  have vl := a.vl
  split at vl
  · exact (vl.1.frozen h).1
  · exact (vl.1.frozen h).1
def Snd2 (G : GC) (g : List D → Option D) (r : R2) : Prop := ∀ Z S H ds x y d Q, (∀ a, Z a → ∃ o, H a = some o) → ArgV G Z S H ds [x, y] → g ds = some d → OkV G Z H d Q → r x y H Q
theorem isF_of {b : Bool} (h : ¬ (!b) = true) : b = true := by cases b with | true => rfl | false => exact absurd rfl h
theorem rd_chain {v1 v2 v3 q1 q2 q3 : Bool} {g g' : List D → Option D} {r r' : R2} {fa fb fc : DS → Option ER} {ta tb tc : TE} (h1 : Snd2 G g r) (h2 : Snd2 G g' r') (ha : ∀ σ H Q, rdE G W v1 q1 fa σ H Q → ta σ H Q) (hb : ∀ σ H Q, rdE G W v2 q2 fb σ H Q → tb σ H Q) (hc : ∀ σ H Q, rdE G W v3 q3 fc σ H Q → tc σ H Q) :
    ∀ σ H Q, rdE G W false false (evChain g g' fa fb fc) σ H Q → tChain r r' ta tb tc σ H Q := by
  rintro σ H Q ⟨δ, Z, S, FS, sr, ⟨w, hf⟩, ok, ex⟩
  unfold evChain at hf ok ex
  have av : ∀ {Z S : AS} {H : Hp} {a b : D} {x y : V}, RepF G Z H a x → RepF G Z H b y → ArgV G Z S H [a, b] [x, y] := fun {Z S H a b x y} p q => ⟨rfl, fun j d v e1 e2 => by
    match j with
    | 0 => simp at e1 e2; subst e1 e2; exact ⟨S0, .fz p fun _ z => z⟩
    | 1 => simp at e1 e2; subst e1 e2; exact ⟨S0, .fz q fun _ z => z⟩
    | j + 2 => simp at e1⟩
  refine ha σ H _ ⟨δ, Z, S, FS, sr, ?_, fun a δ1 e1 x H1 Z1 FS1 A1 p1 => ?_, fun x δ1 e1 => ?_⟩
  · cases q : fa δ with
    | none => rw [q] at hf; cases hf
    | some w => exact ⟨w, rfl⟩
  · rw [e1] at hf ok ex
    simp only at hf ok ex
    by_cases c1 : (!isF a) = true
    · rw [if_pos c1] at hf; cases hf
    · rw [if_neg c1] at hf ok ex
      obtain ⟨ra, b1⟩ := p1.fzn (isF_of c1)
      refine hb σ H1 _ ⟨δ1, Z1, S, FS1, b1.sr, ?_, fun b δ2 e2 y H2 Z2 FS2 A2 p2 => ?_, fun x δ2 e2 => ?_⟩
      · cases q : fb δ1 with
        | none => rw [q] at hf; cases hf
        | some w => exact ⟨w, rfl⟩
      · rw [e2] at hf ok ex
        simp only at hf ok ex
        by_cases c2 : (!isF b) = true
        · rw [if_pos c2] at hf; cases hf
        · rw [if_neg c2] at hf ok ex
          obtain ⟨rb, b2⟩ := p2.fzn (isF_of c2)
          have ra2 := ra.step b2.st fun x z => (b1.sr.nz x z).1
          cases eg : g [a, b] with
          | none => rw [eg] at hf; cases hf
          | some d =>
            rw [eg] at hf ok ex
            refine (h1 Z2 S0 H2 [a, b] x y d (fun z H3 => ∃ k, z = V.bl k ∧ if k = true then tc σ H3 fun w' H4 => r' y w' H4 Q else Q (V.bl false) H3) b2.sr.zs (av ra2 rb) eg ?_)
            · intro z H3 Z3 A3 sm zi zn rp fr
              match d, hf, ok, ex, rp with
              | .bl false, hf, ok, ex, rp =>
                rw [rp.blV]
                refine ⟨false, rfl, ?_⟩
                rw [if_neg Bool.false_ne_true]
                have b3 : PostB G S false σ H Z FS δ2 H3 Z3 FS2 := ⟨b2.sr.grow sm zi zn, (b1.st.trans b2.st).trans ⟨fun a o e _ => sm a o e, fun a o e => ⟨o, sm a o e⟩, zi, fun a z => (zn a z).imp id fun q => .inr q.1, fun a z => .inl z⟩, fun q => absurd q Bool.false_ne_true⟩
                exact ok _ _ rfl _ H3 Z3 FS2 S0 (b3.bl false)
              | .bl true, hf, ok, ex, rp =>
                rw [rp.blV]
                refine ⟨true, rfl, ?_⟩
                rw [if_pos rfl]
                simp only at hf ok ex
                have b3 : PostB G S false σ H Z FS δ2 H3 Z3 FS2 := ⟨b2.sr.grow sm zi zn, (b1.st.trans b2.st).trans ⟨fun a o e _ => sm a o e, fun a o e => ⟨o, sm a o e⟩, zi, fun a z => (zn a z).imp id fun q => .inr q.1, fun a z => .inl z⟩, fun q => absurd q Bool.false_ne_true⟩
                have rb3 : RepF G Z3 H3 b y := rb.mono zi fun a _ o e => sm a o e
                refine hc σ H3 _ ⟨δ2, Z3, S, FS2, b3.sr, ?_, fun c δ3 e3 w' H4 Z4 FS4 A4 p4 => ?_, fun x δ3 e3 c dd H4 Z4 FS4 p4 => ?_⟩
                · cases q : fc δ2 with
                  | none => rw [q] at hf; cases hf
                  | some w => exact ⟨w, rfl⟩
                · rw [e3] at hf ok
                  simp only at hf ok
                  by_cases c3 : (!isF c) = true
                  · rw [if_pos c3] at hf; cases hf
                  · rw [if_neg c3] at hf ok
                    obtain ⟨rc, b4⟩ := p4.fzn (isF_of c3)
                    have rb4 := rb3.step b4.st fun x z => (b3.sr.nz x z).1
                    cases eg2 : g' [b, c] with
                    | none => rw [eg2] at hf; cases hf
                    | some d2 =>
                      rw [eg2] at hf ok
                      have h := h2 Z4 S0 H4 [b, c] y w' d2 Q b4.sr.zs (av rb4 rc) eg2 (by
                        intro z H5 Z5 A5 sm zi zn rp fr
                        match d2, hf, ok, rp with
                        | .bl k, hf, ok, rp =>
                          rw [rp.blV]
                          have b5 : PostB G S false σ H Z FS δ3 H5 Z5 FS4 := ⟨b4.sr.grow sm zi zn, (b3.st.trans b4.st).trans ⟨fun a o e _ => sm a o e, fun a o e => ⟨o, sm a o e⟩, zi, fun a z => (zn a z).imp id fun q => .inr q.1, fun a z => .inl z⟩, fun q => absurd q Bool.false_ne_true⟩
                          exact ok _ _ rfl _ H5 Z5 FS4 S0 (b5.bl k))
                      exact h
                · rw [e3] at ex
                  exact ex x δ3 rfl c dd H4 Z4 FS4 ⟨p4.sr, b3.st.trans p4.st, p4.xr⟩
      · rw [e2] at ex
        exact fun c dd H2 Z2 FS2 p2 => ex x δ2 rfl c dd H2 Z2 FS2 (b1.thenX p2)
  · rw [e1] at ex
    exact ex x δ1 rfl
end
end PD
/-! P, part 14: the rules of P, construct by construct. -/
namespace PD
open PySem L2

/-- the world that a walk is in -/
structure En where
  P : Program
  w : World
  K : PySem.W.Frag
  mg : Str → Option Value
  base : Heap
/-- a place: names, level, scope -/
structure Pl where
  N : List Str
  k : Nat
  sc : Scope
  fn : Str → Bool
structure At (E : En) (p : Pl) (X : Cx) : Prop where
  prog : X.prog = E.P
  w : X.w = E.w
  K : X.K = E.K
  mg : X.mg = E.mg
  base : X.base = E.base
  N : X.N = p.N
  room : Room p.k X.A
  calm : X.calm = true
  sc : X.env.scope = p.sc
  fn : X.fn = p.fn
def Pl.blk (p : Pl) (scope : Scope) : Pl := ⟨p.N, p.k, relS scope p.sc, fun x => scope.names.lookup x == some .cell⟩
theorem At.blk {E : En} {p : Pl} {X : Cx} (h : At E p X) (s : Shared) (H : Hp) (scope : Scope) (C : Addr) (cl : List (Str × Addr)) (fp : List Addr) : At E (p.blk scope) (Cx.blk X s H scope (compEnvC scope cl C X.env) fp) :=
  ⟨h.prog, h.w, h.K, h.mg, h.base, h.N, h.room, h.calm, by show relabel scope X.env = relS scope p.sc; rw [← h.sc]; rfl, rfl⟩
theorem At.xo {E : En} {G : GC} {p : Pl} {X : Cx} (h : At E p X) (hG : G.K = E.K) : XO G X :=
  ⟨h.K.trans hG.symm, by have := h.room.un; omega, h.room.hd, h.calm⟩
theorem takes_w0 {X : Cx} : Takes X W0 := fun u s' ⟨_, _, _, _, _, _, _, _, _, _, _, _, _, _, _, _, h⟩ => h.elim

section
variable (E : En) (G : GC) (p : Pl)
def JE (vw qt : Bool) (e : Expr) (f : DS → Option ER) : Prop := ∀ X W, At E p X → Takes X W → PE X e (rdE G W vw qt f)
def JA (ks : List Bool) (qt : Bool) (es : List Expr) (f : DS → Option EA) : Prop := ∀ X W, At E p X → Takes X W → PA X es (rdA G W ks qt f)
def JT (qt : Bool) (e : Expr) (f : DS → Option EB) : Prop := ∀ X W, At E p X → Takes X W → PT X e (rdT G W qt f)
def JTs (qt : Bool) (es : List Expr) (f : DS → Option EB) : Prop := ∀ X W, At E p X → Takes X W → PTs X es (rdT G W qt f)
def JW (qt : Bool) (e : Expr) (f : DS → Option EB) : Prop := ∀ X W, At E p X → Takes X W → PW X e (rdT G W qt f)
def JI (qt : Bool) (tg e : Expr) (f : DS → Option EI) : Prop := ∀ X W, At E p X → Takes X W → PI X tg e (rdI G W qt f)
def JTg (n : Nat) (pn : List Nat) (e : Expr) (tg : D → DS → Option DS) : Prop := ∃ g, TgOk G n pn tg g ∧ ∀ X, At E p X → PG X e g
def JS (n : Nat) (pn : List Nat) (st : Stmt) (f : DS → Option ES) : Prop := ∀ X W, At E p X → Takes X W → PassesOwn (model X.prog X.w) X.A X.env X.xe → PS X st (rdS G W n pn f)
def JSs (n : Nat) (pn : List Nat) (st : List Stmt) (f : DS → Option ES) : Prop := ∀ X W, At E p X → Takes X W → PassesOwn (model X.prog X.w) X.A X.env X.xe → PSs X st (rdS G W n pn f)
end
/-- a def that may be called by name -/
def Fd (E : En) (G : GC) (x : Str) (k : Nat) (F : FD) (dds : List D) : Prop :=
  ∃ f fd ps ds dvs, FnOk E.P E.w E.K E.mg E.base (CX E.P E.w) k f fd ps (spF G F) ∧ E.mg x = some (.ref f) ∧ PySem.W.keepIn E.K (.ref f) = true ∧ Binds E.K fd ps ds ∧ Vals dvs ds ∧ Cst G dds dvs

theorem PTs.mono {X : Cx} {e : List Expr} {t t' : TT} (h : PTs X e t) (m : ∀ σ H Q, t' σ H Q → t σ H Q) : PTs X e t' := ⟨fun pins s σ H Q I q => h.run pins s σ H Q I (m σ H Q q)⟩
theorem PW.mono {X : Cx} {e : Expr} {t t' : TT} (h : PW X e t) (m : ∀ σ H Q, t' σ H Q → t σ H Q) : PW X e t' := ⟨fun whole pins s σ H Q I q => h.run whole pins s σ H Q I (m σ H Q q)⟩
theorem PI.mono {X : Cx} {tg e : Expr} {t t' : TI} (h : PI X tg e t) (m : ∀ σ H Q, t' σ H Q → t σ H Q) : PI X tg e t' := ⟨fun pins s σ H Q I q => h.run pins s σ H Q I (m σ H Q q)⟩
theorem PE.monoL {X : Cx} {e : Expr} {t t' : TE} (h : PE X e t) (m : ∀ σ H Q, σ.length = X.N.length → t' σ H Q → t σ H Q) : PE X e t' := ⟨fun pins s σ H Q I q => h.run pins s σ H Q I (m σ H Q I.len q)⟩

/-! ### checks of places -/
def nmOk (p : Pl) (i : Nat) (x : Str) : Bool := decide (p.N[i]? = some x) && (decide (p.sc.names.lookup x = some .local) || decide (p.sc.names.lookup x = some .cell) || decide (p.sc.names.lookup x = some .free)) && !(x == Str.ofString "__debug__") && !(x == Str.ofString "__classdict__")
def stOk (p : Pl) (i : Nat) (x : Str) : Bool := decide (p.N[i]? = some x) && ((decide (p.sc.names.lookup x = some .cell) && p.fn x) || decide (p.sc.names.lookup x = some .local))
def glOk (p : Pl) (x : Str) : Bool := decide (p.sc.names.lookup x = some .globalImplicit) && !(x == Str.ofString "__debug__") && !(x == Str.ofString "__name__")
section
variable {E : En} {G : GC} {p : Pl} {X : Cx} {n : Nat} {pn : List Nat}
theorem nmOk.get {i : Nat} {x : Str} (h : nmOk p i x = true) : p.N[i]? = some x ∧ Vis p.sc x ∧ (x == Str.ofString "__debug__") = false ∧ (x == Str.ofString "__classdict__") = false := by
  unfold nmOk at h
  simp only [Bool.and_eq_true, Bool.or_eq_true, decide_eq_true_eq, Bool.not_eq_true'] at h
  exact ⟨h.1.1.1, h.1.1.2.elim (fun z => z.elim .inl fun q => .inr (.inl q)) fun q => .inr (.inr q), h.1.2, h.2⟩
theorem at_pe {i : Nat} {x : Str} {pos : Pos} (h : nmOk p i x = true) (hA : At E p X) : PE X (.Name x pos) (tVar i) := by
  obtain ⟨h1, h2, h3, h4⟩ := nmOk.get h
  exact pe_var (by rw [hA.N]; exact h1) (by rw [hA.sc]; exact h2) h3 h4
theorem at_gl {x : Str} (h : glOk p x = true) (hA : At E p X) : Gl X x ∧ (x == Str.ofString "__debug__") = false ∧ x ≠ Str.ofString "__name__" := by
  unfold glOk at h
  simp only [Bool.and_eq_true, decide_eq_true_eq, Bool.not_eq_true'] at h
  refine ⟨?_, h.1.2, fun e => ?_⟩
  · show X.env.scope.names.lookup x = _
    rw [hA.sc]; exact h.1.1
  · have := h.2; rw [e] at this; simp at this
/-! ### expressions -/
theorem j_var {i : Nat} {x : Str} {pos : Pos} (h : nmOk p i x = true) : JE E G p true true (.Name x pos) (evVar i) := fun X W hA _ => PE.mono (at_pe h hA) rd_var
theorem j_fv {i : Nat} {x : Str} {pos : Pos} (h : nmOk p i x = true) : JE E G p false false (.Name x pos) (evFv i) := fun X W hA _ => PE.mono (at_pe h hA) rd_fv
theorem j_mv {i : Nat} {x : Str} {pos : Pos} (h : nmOk p i x = true) : JE E G p false false (.Name x pos) (evMv i) := fun X W hA _ => PE.mono (at_pe h hA) rd_mv
theorem j_int {i : Int} {j : Nat} {pos : Pos} : JE E G p false true (.Constant (.int i) j pos) (evCst (.int i)) := fun X W hA _ => PE.mono pe_int (rd_cst fun _ _ => .int i)
theorem j_str {z : Str} {j : Nat} {pos : Pos} : JE E G p false true (.Constant (.str z) j pos) (evCst (.str z)) := fun X W hA _ => PE.mono pe_str (rd_cst fun _ _ => .str z)
theorem j_bl {b : Bool} {j : Nat} {pos : Pos} : JE E G p false true (.Constant (.bool b) j pos) (evCst (.bl b)) := fun X W hA _ => PE.mono pe_bl (rd_cst fun _ _ => .bl b)
theorem j_non {j : Nat} {pos : Pos} : JE E G p false true (.Constant .none j pos) (evCst .non) := fun X W hA _ => PE.mono pe_non (rd_cst fun _ _ => .non)
/-- a scalar of the top -/
theorem j_glob {x : Str} {v : V} {d : D} {u : Value} {pos : Pos} (h : glOk p x = true) (hm : E.mg x = some u) (hr : RelV v u) (hd : ∀ Z H, RepF G Z H d v) : JE E G p false true (.Name x pos) (evCst d) := fun X W hA _ =>
  let ⟨g, g2, _⟩ := at_gl h hA
  PE.mono (pe_glob g (by rw [hA.mg]; exact hm) hr g2) (rd_cst hd)
theorem j_nil : JA E G p [] true [] evNil := fun X W hA _ => PA.mono pa_nil rd_nil
abbrev StarNo (e : Expr) (es : List Expr) : Prop := ∀ env, starEach (e :: es) env = (false, eval e env) :: starEach es env
theorem j_cons {vw qa qr : Bool} {ks : List Bool} {e : Expr} {es : List Expr} {fa : DS → Option ER} {fr : DS → Option EA} (ha : JE E G p vw qa e fa) (hr : JA E G p ks qr es fr) (hv : vw = true → qa = true := by decide) (hs : StarNo e es := by exact fun _ => rfl) :
    JA E G p (vw :: ks) (qa && qr) (e :: es) (evCons vw qr fa fr) := fun X W hA hT => PA.mono (pa_cons (ha X W hA hT) (hr X W hA hT) (hs _)) (rd_cons (fun _ _ _ h => h) (fun _ _ _ h => h) hv)
/-- an argument that is a name -/
theorem j_dfr {i : Nat} {x : Str} {pos : Pos} {qr : Bool} {ks : List Bool} {es : List Expr} {fr : DS → Option EA} (h : nmOk p i x = true) (hr : JA E G p ks qr es fr) (hs : StarNo (.Name x pos) es := by exact fun _ => rfl) :
    JA E G p (true :: ks) qr (.Name x pos :: es) (evDefer i fr) := fun X W hA hT => PA.mono (pa_cons (at_pe h hA) (hr X W hA hT) (hs _)) (rd_defer fun _ _ _ h => h)
theorem tOp_of {r : List V → Hp → VK → Prop} {ta tb : TE} {σ : St} {H : Hp} {Q : VK} (h : tCons ta (tCons tb tNil) σ H fun vs H1 => r vs H1 Q) : tOp (fun x y H Q => r [x, y] H Q) ta tb σ H Q := h
/-- two operands: how they are read -/
inductive J2 (E : En) (G : GC) (p : Pl) : List Bool → Bool → Expr → Expr → (DS → Option EA) → Prop
  | cc {v1 q1 v2 q2 : Bool} {a b : Expr} {fa fb : DS → Option ER} (ha : JE E G p v1 q1 a fa) (hb : JE E G p v2 q2 b fb) (h1 : v1 = true → q1 = true) (h2 : v2 = true → q2 = true) : J2 E G p [v1, v2] (q1 && (q2 && true)) a b (evCons v1 (q2 && true) fa (evCons v2 true fb evNil))
  | dc {i : Nat} {x : Str} {pos : Pos} {v2 q2 : Bool} {b : Expr} {fb : DS → Option ER} (h : nmOk p i x = true) (hb : JE E G p v2 q2 b fb) (h2 : v2 = true → q2 = true) : J2 E G p [true, v2] (q2 && true) (.Name x pos) b (evDefer i (evCons v2 true fb evNil))
theorem J2.go {ks : List Bool} {qt : Bool} {a b : Expr} {fa : DS → Option EA} (h : J2 E G p ks qt a b fa) {W : WX} (hA : At E p X) (hT : Takes X W) : ∃ ta tb, PE X a ta ∧ PE X b tb ∧ ∀ σ H Q, rdA G W ks qt fa σ H Q → tCons ta (tCons tb tNil) σ H Q := by
  cases h with
  | cc ha hb h1 h2 => exact ⟨_, _, ha X W hA hT, hb X W hA hT, rd_cons (fun _ _ _ h => h) (rd_cons (fun _ _ _ h => h) rd_nil h2) h1⟩
  | dc h hb h2 => exact ⟨_, _, at_pe h hA, hb X W hA hT, rd_defer (rd_cons (fun _ _ _ h => h) rd_nil h2)⟩
theorem j_bin {ks : List Bool} {qt : Bool} {op : Operator} {a b : Expr} {pos : Pos} {g : List D → Option D} {fa : DS → Option EA} (hG : G.K = E.K) (ho : ∀ {X}, XO G X → BinOk G X (binaryOp op) g) (ha : J2 E G p ks qt a b fa) : JE E G p false qt (.BinOp a op b pos) (evOp g fa) := fun X W hA hT =>
  let ⟨_, _, h1, h2, h3⟩ := ha.go hA hT
  PE.mono (pe_op (ho (hA.xo hG)) h1 h2) fun σ H Q h => rd_op (snd_of G g) h3 σ H Q h
theorem j_cmp {ks : List Bool} {qt : Bool} {op : CmpOp} {a b : Expr} {pos : Pos} {g : List D → Option D} {fa : DS → Option EA} (hG : G.K = E.K) (ho : ∀ {X}, XO G X → BinOk G X (compareOp op) g) (ha : J2 E G p ks qt a b fa) (hm : behindInMarks op b = false := by rfl) : JE E G p false qt (.Compare a [op] [b] pos) (evOp g fa) := fun X W hA hT =>
  let ⟨_, _, h1, h2, h3⟩ := ha.go hA hT
  PE.mono (pe_cmpR (ho (hA.xo hG)) h1 h2 hm) fun σ H Q h => rd_op (snd_of G g) h3 σ H Q h
theorem j_ix {ks : List Bool} {qt : Bool} {a b : Expr} {pos : Pos} {g : List D → Option D} {fa : DS → Option EA} (hG : G.K = E.K) (ho : ∀ {X}, XO G X → IxOk G X g) (ha : J2 E G p ks qt a b fa) (hp : PlainIx b := by exact fun _ _ => rfl) : JE E G p false qt (.Subscript a b pos) (evOp g fa) := fun X W hA hT =>
  let ⟨_, _, h1, h2, h3⟩ := ha.go hA hT
  PE.mono (pe_ix (ho (hA.xo hG)) h1 h2 hp) fun σ H Q h => rd_op (snd_of G g) h3 σ H Q h
theorem j_un {v1 q1 : Bool} {op : UnaryOp} {a : Expr} {pos : Pos} {g : List D → Option D} {fa : DS → Option ER} (hG : G.K = E.K) (ho : ∀ {X}, XO G X → UnOk G X (unaryOp op) g) (ha : JE E G p v1 q1 a fa) (hv : v1 = true → q1 = true := by decide) : JE E G p false (q1 && true) (.UnaryOp op a pos) (evOp g (evCons v1 true fa evNil)) := fun X W hA hT =>
  PE.mono (pe_un (ho (hA.xo hG)) (ha X W hA hT)) fun σ H Q h => rd_op (snd_of G g) (rd_cons (fun _ _ _ h => h) rd_nil hv) σ H Q h
theorem snd2 {g : List D → Option D} : Snd2 G g (fun x y H Q => rOf G g [x, y] H Q) := fun Z S H ds x y d Q zs a e k => ⟨Z, S, ds, d, zs, a, e, k⟩
end
end PD
/-! P, part 15: the rules of P, construct by construct, continued. -/
namespace PD
open PySem L2

def evYes : DS → Option EB := fun δ => some (.ok true, δ)
section
variable {E : En} {G : GC} {p : Pl} {X : Cx} {n : Nat} {pn : List Nat}
theorem j_opq {vw qt : Bool} {e : Expr} {f : DS → Option ER} (h : JE E G p vw qt e f) : JE E G p false qt e (evOpq vw f) := fun X W hA hT => PE.mono (h X W hA hT) (rd_opq fun _ _ _ h => h)
theorem j_tup {ks : List Bool} {qt : Bool} {es : List Expr} {x1 : Nat} {pos : Pos} {fa : DS → Option EA} (h : JA E G p ks qt es fa) : JE E G p false qt (.Tuple es x1 pos) (evTup ks fa) := fun X W hA hT => PE.mono (pe_tup (h X W hA hT)) (rd_tup fun _ _ _ h => h)
theorem j_lst {ks : List Bool} {qt : Bool} {es : List Expr} {pos : Pos} {fa : DS → Option EA} (h : JA E G p ks qt es fa) : JE E G p false qt (.List es pos) (evLst ks fa) := fun X W hA hT => PE.mono (pe_lst (h X W hA hT)) (rd_lst fun _ _ _ h => h)
abbrev NoStar (es : List Expr) : Prop := ∀ (env : Env) (pos : Pos), ((backTo pos (starEach es env)).any fun x => x.1) = false
/-- a built-in function, a built-in type -/
theorem j_bi {ks : List Bool} {qt : Bool} {x : Str} {q pos : Pos} {e : Expr} {es : List Expr} {id : String} {g : List D → Option D} {fa : DS → Option EA} (hG : G.K = E.K) (ho : ∀ {X}, XO G X → CallOk G X (.builtin id) g) (hg : glOk p x = true) (hm : E.mg x = none) (hb : bootBuiltins x = some (.builtin id))
    (ha : JA E G p ks qt (e :: es) fa) (hs : StarNo e es := by exact fun _ => rfl) (hs2 : NoStar es := by exact fun _ _ => rfl) : JE E G p false qt (.Call (.Name x q) (e :: es) [] pos) (evOp g fa) := fun X W hA hT =>
  let ⟨g1, g2, g3⟩ := at_gl hg hA
  PE.mono (pe_callB (ho (hA.xo hG)) g1 (by rw [hA.mg]; exact hm) hb (ha X W hA hT) g3 g2 (hs _) (hs2 _ _)) fun σ H Q h => rd_op (snd_of G g) (fun _ _ _ h => h) σ H Q h
theorem j_ty {ks : List Bool} {qt : Bool} {x : Str} {q pos : Pos} {e : Expr} {es : List Expr} {id : String} {g : List D → Option D} {fa : DS → Option EA} (hG : G.K = E.K) (ho : ∀ {X}, XO G X → CallOk G X (.type id) g) (hg : glOk p x = true) (hm : E.mg x = none) (hb : bootBuiltins x = some (.type id))
    (ha : JA E G p ks qt (e :: es) fa) (hs : StarNo e es := by exact fun _ => rfl) (hs2 : NoStar es := by exact fun _ _ => rfl) : JE E G p false qt (.Call (.Name x q) (e :: es) [] pos) (evOp g fa) := fun X W hA hT =>
  let ⟨g1, g2, g3⟩ := at_gl hg hA
  PE.mono (pe_callTy (ho (hA.xo hG)) g1 (by rw [hA.mg]; exact hm) hb (ha X W hA hT) g3 g2 (hs _) (hs2 _ _)) fun σ H Q h => rd_op (snd_of G g) (fun _ _ _ h => h) σ H Q h
/-- an own function -/
theorem at_call {x : Str} {k : Nat} {F : FD} {dds : List D} {q pos : Pos} {e : Expr} {es : List Expr} {W : WX} {t : TA} (c : Fd E G x k F dds) (hk : k ≤ p.k) (hg : glOk p x = true) (hA : At E p X) (hT : Takes X W) (hs : StarNo e es) (hs2 : NoStar es) (ha : PA X (e :: es) t) :
    ∃ dvs, Cst G dds dvs ∧ PE X (.Call (.Name x q) (e :: es) [] pos) (tCallSD (spF G F) dvs (fun σ => WE W σ) t) := by
  obtain ⟨f, fd, ps, ds, dvs, h1, h2, h3, h4, h5, h6⟩ := c
  obtain ⟨g1, g2, g3⟩ := at_gl hg hA
  obtain ⟨eP, ew, eK, emg, eb, _, hr, _, _, _⟩ := hA
  rw [← eP, ← ew, ← eK, ← emg, ← eb] at h1
  rw [← emg] at h2
  rw [← eK] at h3 h4
  exact ⟨dvs, h6, pe_callSD h1 (hr.mono hk) g1 h2 h3 h4 h5 (fun σ => passAt hT σ) ha g2 (hs _) (hs2 _ _)⟩
theorem j_own {x : Str} {k : Nat} {F : FD} {dds : List D} {ks : List Bool} {qt : Bool} {q pos : Pos} {e : Expr} {es : List Expr} {fa : DS → Option EA} (c : Fd E G x k F dds) (hk : k ≤ p.k) (hg : glOk p x = true) (ha : JA E G p ks qt (e :: es) fa) (hs : StarNo e es := by exact fun _ => rfl) (hs2 : NoStar es := by exact fun _ _ => rfl) :
    JE E G p false qt (.Call (.Name x q) (e :: es) [] pos) (evCall F ks dds fa) := fun X W hA hT =>
  let ⟨_, h6, h⟩ := at_call c hk hg hA hT hs hs2 (ha X W hA hT)
  PE.mono h (rd_call h6 fun _ _ _ h => h)
theorem j_ownM {x y : Str} {i k : Nat} {F : FD} {dds : List D} {ks : List Bool} {qt : Bool} {q q2 pos : Pos} {es : List Expr} {fr : DS → Option EA} (c : Fd E G x k F dds) (hk : k ≤ p.k) (hg : glOk p x = true) (hy : nmOk p i y = true) (ha : JA E G p ks qt es fr) (hs : StarNo (.Name y q2) es := by exact fun _ => rfl) (hs2 : NoStar es := by exact fun _ _ => rfl) :
    JE E G p false false (.Call (.Name x q) (.Name y q2 :: es) [] pos) (evCallM F i ks dds fr) := fun X W hA hT =>
  let ⟨_, h6, h⟩ := at_call c hk hg hA hT hs hs2 (pa_cons (at_pe hy hA) (ha X W hA hT) (hs _))
  PE.mono h (rd_callM h6 fun _ _ _ h => h)
/-! truth values -/
theorem j_one {vw qt : Bool} {op : BoolOp} {a : Expr} {pos : Pos} {f : DS → Option ER} (h : JE E G p vw qt a f) : JE E G p vw qt (.BoolOp op [a] pos) f := fun X W hA hT => pe_one (h X W hA hT)
theorem j_andV {v1 q1 q2 : Bool} {a b : Expr} {r : List Expr} {pos : Pos} {f g : DS → Option ER} (ha : JE E G p v1 q1 a f) (hb : JE E G p false q2 (.BoolOp .And (b :: r) pos) g) : JE E G p false (q1 && q2) (.BoolOp .And (a :: b :: r) pos) (evAndV f g) := fun X W hA hT =>
  PE.mono (pe_and (ha X W hA hT) (hb X W hA hT)) (rd_andV (fun _ _ _ h => h) fun _ _ _ h => h)
theorem j_orV {v1 q1 q2 : Bool} {a b : Expr} {r : List Expr} {pos : Pos} {f g : DS → Option ER} (ha : JE E G p v1 q1 a f) (hb : JE E G p false q2 (.BoolOp .Or (b :: r) pos) g) : JE E G p false (q1 && q2) (.BoolOp .Or (a :: b :: r) pos) (evOrV f g) := fun X W hA hT =>
  PE.mono (pe_or (ha X W hA hT) (hb X W hA hT)) (rd_orV (fun _ _ _ h => h) fun _ _ _ h => h)
theorem j_notV {v1 q1 : Bool} {a : Expr} {pos : Pos} {f : DS → Option ER} (ha : JE E G p v1 q1 a f) : JE E G p false q1 (.UnaryOp .Not a pos) (evNotV f) := fun X W hA hT => PE.mono (pe_not (ha X W hA hT)) (rd_notV fun _ _ _ h => h)
theorem j_chain {v1 v2 v3 q1 q2 q3 : Bool} {op op' : CmpOp} {a b c : Expr} {pos : Pos} {g g' : List D → Option D} {fa fb fc : DS → Option ER} (hG : G.K = E.K) (ho : ∀ {X}, XO G X → BinOk G X (compareOp op) g) (ho' : ∀ {X}, XO G X → BinOk G X (compareOp op') g') (ha : JE E G p v1 q1 a fa) (hb : JE E G p v2 q2 b fb) (hc : JE E G p v3 q3 c fc)
    (hm : lastMarks [op, op'] [b, c] = false := by rfl) : JE E G p false false (.Compare a [op, op'] [b, c] pos) (evChain g g' fa fb fc) := fun X W hA hT =>
  PE.mono (pe_chain (ho (hA.xo hG)) (ho' (hA.xo hG)) (ha X W hA hT) (hb X W hA hT) (hc X W hA hT) hm) (rd_chain snd2 snd2 (fun _ _ _ h => h) (fun _ _ _ h => h) fun _ _ _ h => h)
theorem j_tchain {v1 v2 v3 q1 q2 q3 : Bool} {op op' : CmpOp} {a b c : Expr} {pos : Pos} {g g' : List D → Option D} {fa fb fc : DS → Option ER} (hG : G.K = E.K) (ho : ∀ {X}, XO G X → BinOk G X (compareOp op) g) (ho' : ∀ {X}, XO G X → BinOk G X (compareOp op') g') (ha : JE E G p v1 q1 a fa) (hb : JE E G p v2 q2 b fb) (hc : JE E G p v3 q3 c fc)
    (hm : lastMarks [op, op'] [b, c] = false := by rfl) : JT E G p false (.Compare a [op, op'] [b, c] pos) (evTr blD (evChain g g' fa fb fc)) := fun X W hA hT =>
  PT.mono (pt_chain (ho (hA.xo hG)) (ho' (hA.xo hG)) (ha X W hA hT) (hb X W hA hT) (hc X W hA hT) hm) (rd_trb (rd_chain snd2 snd2 (fun _ _ _ h => h) (fun _ _ _ h => h) fun _ _ _ h => h))
theorem j_tcmp {ks : List Bool} {qt : Bool} {op : CmpOp} {a b : Expr} {pos : Pos} {g : List D → Option D} {fa : DS → Option EA} (hG : G.K = E.K) (ho : ∀ {X}, XO G X → BinOk G X (compareOp op) g) (ha : J2 E G p ks qt a b fa) (hm : behindInMarks op b = false := by rfl) : JT E G p qt (.Compare a [op] [b] pos) (evTr blD (evOp g fa)) := fun X W hA hT =>
  let ⟨ta, tb, h1, h2, h3⟩ := ha.go hA hT
  have h4 : ∀ σ H Q, rdE G W false qt (evOp g fa) σ H Q → tOp (fun x y H Q => rOf G g [x, y] H Q) ta tb σ H Q := fun σ H Q h => rd_op (snd_of G g) h3 σ H Q h
  PT.mono (pt_cmpR (ho (hA.xo hG)) h1 h2 hm) (rd_trb h4)
abbrev PlainT (a : Expr) : Prop := ∀ (env : Env) (whole : Sem Value), isTrue a env whole = (do let v ← whole; standAt a.pos; holding [v] (truthy v))
theorem j_tval {vw qt : Bool} {a : Expr} {f : DS → Option ER} (hG : G.K = E.K) (ha : JE E G p vw qt a f) (he : PlainT a := by exact fun _ _ => rfl) : JT E G p qt a (evTr truD f) := fun X W hA hT =>
  PT.mono (pt_truth (ha X W hA hT) (he _)) (by have := rd_tru (G := G) (W := W) (vw := vw) (qt := qt) (f := f) (fun _ _ _ h => h); rw [hG, ← hA.K] at this; exact this)
theorem j_tnot {qt : Bool} {a : Expr} {pos : Pos} {f : DS → Option EB} (ha : JT E G p qt a f) : JT E G p qt (.UnaryOp .Not a pos) (evNotT f) := fun X W hA hT => PT.mono (pt_not (ha X W hA hT)) (rd_notT fun _ _ _ h => h)
theorem j_w {qt : Bool} {a : Expr} {f : DS → Option EB} (h : JW E G p qt a f) : JT E G p qt a f := fun X W hA hT => (h X W hA hT).pt
theorem j_wa1 {qt : Bool} {a : Expr} {pos : Pos} {f : DS → Option EB} (h : JT E G p qt a f) : JW E G p qt (.BoolOp .And [a] pos) f := fun X W hA hT => pw_and1 (h X W hA hT)
theorem j_wo1 {qt : Bool} {a : Expr} {pos : Pos} {f : DS → Option EB} (h : JT E G p qt a f) : JW E G p qt (.BoolOp .Or [a] pos) f := fun X W hA hT => pw_or1 (h X W hA hT)
theorem j_wand {q1 q2 : Bool} {a b : Expr} {r : List Expr} {pos : Pos} {f g : DS → Option EB} (ha : JT E G p q1 a f) (hb : JW E G p q2 (.BoolOp .And (b :: r) pos) g) : JW E G p (q1 && q2) (.BoolOp .And (a :: b :: r) pos) (evAndT f g) := fun X W hA hT =>
  PW.mono (pw_and (ha X W hA hT) (hb X W hA hT)) (rd_andT (fun _ _ _ h => h) fun _ _ _ h => h)
theorem j_wor {q1 q2 : Bool} {a b : Expr} {r : List Expr} {pos : Pos} {f g : DS → Option EB} (ha : JT E G p q1 a f) (hb : JW E G p q2 (.BoolOp .Or (b :: r) pos) g) : JW E G p (q1 && q2) (.BoolOp .Or (a :: b :: r) pos) (evOrT f g) := fun X W hA hT =>
  PW.mono (pw_or (ha X W hA hT) (hb X W hA hT)) (rd_orT (fun _ _ _ h => h) fun _ _ _ h => h)
theorem j_if {q1 q2 q3 : Bool} {c a b : Expr} {pos : Pos} {t : DS → Option EB} {f g : DS → Option ER} (hc : JT E G p q1 c t) (ha : JE E G p false q2 a f) (hb : JE E G p false q3 b g) : JE E G p false (q1 && q2 && q3) (.IfExp c a b pos) (evIf t f g) := fun X W hA hT =>
  PE.mono (pe_ifExp (hc X W hA hT) (ha X W hA hT) (hb X W hA hT)) (rd_if (fun _ _ _ h => h) (fun _ _ _ h => h) fun _ _ _ h => h)
/-! what is gone through -/
def Rt (fs : DS → Option EI) (rt : Option Nat) : Prop := ∀ δ i d xs δ', fs δ = some (.ok (.lent i d xs), δ') → rt = some i
theorem rt_src {rt : Option Nat} {vw : Bool} {f : DS → Option ER} : Rt (evSrc rt vw f) rt := fun δ i d xs δ' h => by
  unfold evSrc at h
  split at h
  · cases h
  · cases h
  · split at h
    · cases h
    · split at h
      · split at h
        · cases h
        · cases h; rfl
      · cases h
theorem rt_rng {g : List D → Option (List D)} {f : DS → Option EA} : Rt (evRng g f) none := fun δ i d xs δ' h => by
  unfold evRng at h
  split at h
  · cases h
  · cases h
  · split at h
    · cases h
    · cases h
theorem j_src {vw qt : Bool} {tg e : Expr} {f : DS → Option ER} (hG : G.K = E.K) (ha : JE E G p vw qt e f) : JI E G p qt tg e (evSrc none vw f) := fun X W hA hT =>
  PI.mono (pi_any (ha X W hA hT)) (by have := rd_src (G := G) (W := W) (vw := vw) (qt := qt) (f := f) (fun _ _ _ h => h); rw [hG, ← hA.K] at this; exact this)
theorem j_srcV {i : Nat} {x : Str} {tg : Expr} {pos : Pos} (hG : G.K = E.K) (h : nmOk p i x = true) : JI E G p false tg (.Name x pos) (evSrc (some i) true (evVar i)) := fun X W hA hT =>
  PI.mono (pi_any (at_pe h hA)) (by have := rd_srcV (G := G) (W := W) (i := i); rw [hG, ← hA.K] at this; exact this)
theorem j_rng1 {ks : List Bool} {qt : Bool} {tg a : Expr} {q pos : Pos} {f : DS → Option EA} (hg : glOk p (Str.ofString "range") = true) (hm : E.mg (Str.ofString "range") = none) (ha : JA E G p ks qt [a] f) (hs : StarNo a [] := by exact fun _ => rfl) : JI E G p qt tg (.Call (.Name (Str.ofString "range") q) [a] [] pos) (evRng rng1Of f) := fun X W hA hT =>
  PI.mono (pi_range1 (at_gl hg hA).1 (by rw [hA.mg]; exact hm) (ha X W hA hT) (hs _)) (rd_rng rng1_ok fun _ _ _ h => h)
theorem j_rng2 {ks : List Bool} {qt : Bool} {tg a b : Expr} {q pos : Pos} {f : DS → Option EA} (hg : glOk p (Str.ofString "range") = true) (hm : E.mg (Str.ofString "range") = none) (ha : JA E G p ks qt [a, b] f) (hs : StarNo a [b] := by exact fun _ => rfl) (hs2 : StarNo b [] := by exact fun _ => rfl) : JI E G p qt tg (.Call (.Name (Str.ofString "range") q) [a, b] [] pos) (evRng rng2Of f) := fun X W hA hT =>
  PI.mono (pi_range2 (at_gl hg hA).1 (by rw [hA.mg]; exact hm) (ha X W hA hT) (by rw [hs, hs2]; rfl) (hs2 _)) (rd_rng rng2_ok fun _ _ _ h => h)
/-! targets -/
theorem at_tg {i : Nat} {x : Str} {pos : Pos} (h : stOk p i x = true) (hN : p.N.Nodup) (hA : At E p X) : PG X (.Name x pos) (gName i) := by
  unfold stOk at h
  simp only [Bool.and_eq_true, Bool.or_eq_true, decide_eq_true_eq] at h
  refine pg_name (by rw [hA.N]; exact hN) (by rw [hA.N]; exact h.1) ?_ ?_
  · rw [hA.sc]; exact h.2.elim (fun z => .inr z.1) .inl
  · rw [hA.sc, hA.fn]; exact h.2.elim (fun z => .inl z.2) .inr
theorem j_tg {i : Nat} {x : Str} {pos : Pos} (h : stOk p i x = true) (hN : p.N.Nodup) (hi : i < n) (hp : i ∉ pn) : JTg E G p n pn (.Name x pos) (tgName i) := ⟨gName i, tg_name hi hp, fun X hA => at_tg h hN hA⟩
def JNs (E : En) (p : Pl) (n : Nat) (pn : List Nat) (es : List Expr) (is : List Nat) : Prop := (∀ i ∈ is, i < n ∧ i ∉ pn) ∧ ∀ X, At E p X → PGs X es (gNames is)
theorem j_ns0 : JNs E p n pn [] [] := ⟨fun i h => by simp at h, fun X hA => pgs_nil⟩
abbrev TgNo (e : Expr) (es : List Expr) : Prop := ∀ env, (assignEach (e :: es) env).map (fun x => x.2) = assign e env :: (assignEach es env).map fun x => x.2
theorem j_ns {i : Nat} {is : List Nat} {x : Str} {pos : Pos} {es : List Expr} (h : stOk p i x = true) (hN : p.N.Nodup) (hi : i < n) (hp : i ∉ pn) (hr : JNs E p n pn es is) (ht : TgNo (.Name x pos) es := by exact fun _ => rfl) : JNs E p n pn (.Name x pos :: es) (i :: is) :=
  ⟨fun j hj => (List.mem_cons.mp hj).elim (fun e => by rw [e]; exact ⟨hi, hp⟩) (hr.1 j), fun X hA => pgs_cons (at_tg h hN hA) (hr.2 X hA) (ht _)⟩
theorem j_tgt {is : List Nat} {es : List Expr} {k : Nat} {pos : Pos} (hG : G.K = E.K) (h : JNs E p n pn es is) (h1 : ∀ env, (assignEach es env).length = is.length := by exact fun _ => rfl) (h2 : ∀ env, (assignEach es env).findIdx? (fun x => x.1) = none := by exact fun _ => rfl) : JTg E G p n pn (.Tuple es k pos) (tgTup is) :=
  ⟨_, tg_tup h.1, fun X hA => by have := pg_tup (pos := pos) (k := k) hA.calm (h.2 X hA) (h1 _) (h2 _); rw [hA.K, ← hG] at this; exact this⟩
/-! comprehensions -/
theorem j_yes : JTs E G p true [] evYes := fun X W hA hT => PTs.mono pts_nil (by
  rintro σ H Q ⟨δ, Z, S, FS, sr, -, ok, -⟩
  exact ok true δ rfl H Z FS ⟨sr, Step.refl _ _ _, fun _ => ⟨rfl, fun _ _ e => e⟩⟩)
theorem j_tst {qt : Bool} {c : Expr} {f : DS → Option EB} (h : JT E G p qt c f) : JTs E G p qt [c] f := fun X W hA hT => pts_one (h X W hA hT)
/-- all that a comprehension wants -/
structure JLc (E : En) (G : GC) (p : Pl) (own : List (Str × Nat)) (elt tg iter : Expr) (ifs : List Expr) (scope : Scope) (f : DS → Option ER) : Prop where
  go : ∃ fs tgf t fe q1 q2 q3 rt, f = evLc fs tgf t fe (own.map (·.2)) ∧ JI E G p q1 tg iter fs ∧ Rt fs rt ∧ (∀ i, rt = some i → i ∉ own.map (·.2)) ∧ JTg E G (p.blk scope) p.N.length (outside p.N.length (own.map (·.2))) tg tgf ∧ JTs E G (p.blk scope) q2 ifs t ∧ JE E G (p.blk scope) false q3 elt fe
  nd : p.N.Nodup
  blk : blkC p.N p.sc scope own = true
  it : ∀ env x, foldedSetIterable iter env x = pure x
theorem j_lcK {own : List (Str × Nat)} {elt tg iter : Expr} {ifs : List Expr} {scope : Scope} {fs : DS → Option EI} {tgf : D → DS → Option DS} {t : DS → Option EB} {fe : DS → Option ER} {q1 q2 q3 : Bool} {rt : Option Nat}
    (nd : p.N.Nodup) (hb : blkC p.N p.sc scope own = true) (hi : JI E G p q1 tg iter fs) (hr : Rt fs rt) (hrt : ∀ i, rt = some i → i ∉ own.map (·.2)) (htg : JTg E G (p.blk scope) p.N.length (outside p.N.length (own.map (·.2))) tg tgf) (ht : JTs E G (p.blk scope) q2 ifs t) (he : JE E G (p.blk scope) false q3 elt fe) (hit : ∀ env x, foldedSetIterable iter env x = pure x := by exact fun _ _ => rfl) :
    JLc E G p own elt tg iter ifs scope (evLc fs tgf t fe (own.map (·.2))) := ⟨⟨_, _, _, _, _, _, _, _, rfl, hi, hr, hrt, htg, ht, he⟩, nd, hb, hit⟩
theorem JLc.pe {own : List (Str × Nat)} {elt tg iter : Expr} {ifs : List Expr} {scope : Scope} {f : DS → Option ER} {pos : Pos} (h : JLc E G p own elt tg iter ifs scope f) : JE E G p false false (.ListComp elt [⟨tg, iter, ifs, 0⟩] scope pos) f := fun X W hA hT => by
  obtain ⟨⟨fs, tgf, t, fe, q1, q2, q3, rt, rfl, hi, hr, hrt, ⟨g, hg1, hg2⟩, ht, he⟩, nd, hb, hit⟩ := h
  refine PE.monoL (pe_lc (own := own) hA.calm (by rw [hA.N]; exact nd) (hi X W hA hT) (by rw [hA.N, hA.sc]; exact blkOk_by hb) (fun s H C cl fp => hg2 _ (hA.blk s H scope C cl fp)) (fun s H C cl fp => ht _ W0 (hA.blk s H scope C cl fp) takes_w0) (fun s H C cl fp => he _ W0 (hA.blk s H scope C cl fp) takes_w0) (hit _)) fun σ H Q hl h => ?_
  exact rd_lc (fun _ _ _ h => h) hg1 (fun _ _ _ h => h) (fun _ _ _ h => h) (fun δ i d xs δ' e => hrt i (hr δ i d xs δ' e)) σ H Q (by rw [hl, hA.N]) h
end
end PD
/-! P, part 16: the rules of P for statements and defs. -/
namespace PD
open PySem L2

section
variable {E : En} {G : GC} {p : Pl} {X : Cx} {n : Nat} {pn : List Nat}
theorem s_asg {qt : Bool} {i : Nat} {x : Str} {q pos : Pos} {e : Expr} {f : DS → Option ER} (h : stOk p i x = true) (hN : p.N.Nodup) (hi : i < n) (hp : i ∉ pn) (ha : JE E G p false qt e f) (hsw : ∀ env : Env, env.scope = p.sc → swapsWith e (some (.Name x q)) pos.line env = pure false := by exact fun _ _ => rfl) : JS E G p n pn (.Assign [.Name x q] e pos) (evAsg i f) := fun X W hA hT _ => by
  unfold stOk at h
  simp only [Bool.and_eq_true, Bool.or_eq_true, decide_eq_true_eq] at h
  refine PS.mono (ps_set (by rw [hA.N]; exact hN) (by rw [hA.N]; exact h.1) ?_ (ha X W hA hT) (hsw _ hA.sc) ?_) (rd_asg hi hp fun _ _ _ h => h)
  · rw [hA.sc]; exact h.2.elim (fun z => .inr z.1) .inl
  · rw [hA.sc, hA.fn]; exact h.2.elim (fun z => .inl z.2) .inr
theorem sw_cell {elt : Expr} {gs : List Comprehension} {scope : Scope} {pos py : Pos} {y : Str} {l : Nat} {env : Env} (h : (env.scope.names.lookup y == some .local) = false) : swapsWith (.ListComp elt gs scope pos) (some (.Name y py)) l env = pure false := by
  show pure _ = _
  have : (env.kindOf y == some NameKind.local) = false := h
  rw [this]
  simp
theorem s_asgLc {own : List (Str × Nat)} {i : Nat} {x : Str} {q pos spos : Pos} {elt tg iter : Expr} {ifs : List Expr} {scope : Scope} {f : DS → Option ER} (hx : p.N[i]? = some x) (hl : p.sc.names.lookup x = some .local) (hk : p.sc.kind = .function) (hi : i < p.N.length) (hp : i ∉ pn) (h : JLc E G p own elt tg iter ifs scope f)
    (hq : (q.line == pos.line) = true) (hs : (scope.names.any fun x' => match x' with | (m, k) => m == x && (k == .local || k == .cell)) = false) : JS E G p p.N.length pn (.Assign [.Name x q] (.ListComp elt [⟨tg, iter, ifs, 0⟩] scope pos) spos) (evAsg i f) := fun X W hA hT _ => by
  obtain ⟨⟨fs, tgf, t, fe, q1, q2, q3, rt, rfl, hji, hr, hrt, ⟨g, hg1, hg2⟩, ht, he⟩, nd, hb, hit⟩ := h
  have P0 := ps_setLc (i := i) (y := x) (py := q) (pos := pos) (spos := spos) (own := own) hA.calm (by rw [hA.N]; exact nd) (by rw [hA.N]; exact hx) (by rw [hA.sc]; exact hl) (sw_true (by rw [hA.sc]; exact hk) (by rw [hA.sc]; exact hl) hq hs) (hji X W hA hT) (by rw [hA.N, hA.sc]; exact blkOk_by hb) (fun s H C cl fp => hg2 _ (hA.blk s H scope C cl fp)) (fun s H C cl fp => ht _ W0 (hA.blk s H scope C cl fp) takes_w0) (fun s H C cl fp => he _ W0 (hA.blk s H scope C cl fp) takes_w0) (hit _)
  refine PS.mono P0 fun D σ H h => ?_
  have key : ∀ σ H Q, rdE G W false false (evLc fs tgf t fe (own.map (·.2))) σ H Q → (fun σ H Q => σ.length = p.N.length → tLc (rdI G W q1 fs) g (rdT G W0 q2 t) (rdE G W0 false q3 fe) (own.map (·.2)) σ H Q) σ H Q := fun σ H Q h hl => rd_lc (fun _ _ _ h => h) hg1 (fun _ _ _ h => h) (fun _ _ _ h => h) (fun δ i d xs δ' e => hrt i (hr δ i d xs δ' e)) σ H Q hl h
  exact rd_asg hi hp key D σ H h h.1
theorem s_set {qt q2 vk : Bool} {i : Nat} {x : Str} {q r pos : Pos} {e ek : Expr} {f fk : DS → Option ER} (hG : G.K = E.K) (h : nmOk p i x = true) (ha : JE E G p false qt e f) (hk : JE E G p vk q2 ek fk)
    (h1 : ∀ (env : Env) (v : Value), assign (.Subscript (.Name x q) ek r) env v = (do
      let ov ← holding [v] (eval (.Name x q) env)
      let iv ← holding [v, ov] (eval ek env)
      standAt r
      holding [v, ov, iv] (setItem ov iv v)
      release [v, ov, iv] []) := by exact fun _ _ => rfl)
    (h2 : ∀ env : Env, swapsWithSole [.Subscript (.Name x q) ek r] e pos.line env = pure false := by exact fun _ => rfl) (h3 : ∀ env : Env, swappedStores [.Subscript (.Name x q) ek r] e env = pure none := by exact fun _ => rfl)
    (h4 : ∀ env : Env, (assignEach [.Subscript (.Name x q) ek r] env).map (fun x => x.2) = [assign (.Subscript (.Name x q) ek r) env] := by exact fun _ => rfl) : JS E G p n pn (.Assign [.Subscript (.Name x q) ek r] e pos) (evSet i f fk) := fun X W hA hT _ =>
  PS.mono (ps_asg (ha X W hA hT) (pg_sub (at_pe h hA) (hk X W hA hT) set_list (h1 _)) (h2 _) (h3 _) (h4 _)) (rd_set (fun _ _ _ h => h) fun _ _ _ h => h)
theorem s_app {qt : Bool} {i : Nat} {x : Str} {q a c pos : Pos} {e : Expr} {f : DS → Option ER} (hG : G.K = E.K) (h : nmOk p i x = true) (ha : JE E G p false qt e f) (h0 : ∀ env : Env, attributeBase (.Name x q) (Str.ofString "append") env (eval (.Name x q) env) = eval (.Name x q) env := by exact fun _ => rfl) (hs : StarNo e [] := by exact fun _ => rfl) (hp : (a.endLine == c.line) = true := by rfl)
    (h2 : ∀ env : Env, ((((backTo c (starEach [e] env)).all fun x => !x.1) && ((backToKw c (keywordEach [] env)).all fun x => x.1.isSome)) && decide (([e].length + ([] : List Keyword).length + if ([] : List Keyword).isEmpty = true then 0 else 1) < 30)) = true := by exact fun _ => rfl)
    (h3 : ∀ env : Env, swapsWith (.Call (.Attribute (.Name x q) (Str.ofString "append") a) [e] [] c) none pos.line env = pure false := by exact fun _ => rfl) : JS E G p n pn (.Expr (.Call (.Attribute (.Name x q) (Str.ofString "append") a) [e] [] c) pos) (evApp i f) := fun X W hA hT _ => by
  have P0 := ps_expr (pos := pos) (pe_bm (apos := a) (cpos := c) PySem.F.plainAttrs_list PySem.F.slot_list_append PySem.F.type_list_append mt_append (at_pe h hA) (pa_cons (ha X W hA hT) pa_nil (hs _)) (h0 _) (h2 _) hp (hs _) (by rfl)) (h3 _)
  refine PS.mono P0 ?_
  have := rd_app (G := G) (W := W) (n := n) (pn := pn) (i := i) (qt := qt) (f := f) trivial fun _ _ _ h => h
  rw [hG, ← hA.K] at this
  exact this
theorem s_expr {vw qt : Bool} {e : Expr} {pos : Pos} {f : DS → Option ER} (ha : JE E G p vw qt e f) (h3 : ∀ env : Env, swapsWith e none pos.line env = pure false := by exact fun _ => rfl) : JS E G p n pn (.Expr e pos) (evDrop f) := fun X W hA hT _ => PS.mono (ps_expr (ha X W hA hT) (h3 _)) (rd_drop fun _ _ _ h => h)
theorem s_ret {qt : Bool} {e : Expr} {pos : Pos} {f : DS → Option ER} (ha : JE E G p false qt e f) : JS E G p n pn (.Return (some e) pos) (evRet f) := fun X W hA hT _ => PS.mono (ps_ret (ha X W hA hT)) (rd_ret fun _ _ _ h => h)
theorem s_retN {pos : Pos} : JS E G p n pn (.Return none pos) evRetN := fun X W hA hT _ => PS.mono ps_retN rd_retN
theorem s_brk {pos : Pos} : JS E G p n pn (.Break pos) evBrk := fun X W hA hT _ => PS.mono ps_break rd_brk
theorem s_cnt {pos : Pos} : JS E G p n pn (.Continue pos) evCnt := fun X W hA hT _ => PS.mono ps_continue rd_cnt
theorem s_pass {pos : Pos} : JS E G p n pn (.Pass pos) evNx := fun X W hA hT _ => PS.mono ps_pass rd_nx
theorem s_if {q1 : Bool} {c : Expr} {a b : List Stmt} {pos : Pos} {t : DS → Option EB} {f g : DS → Option ES} (hc : JT E G p q1 c t) (ha : JSs E G p n pn a f) (hb : JSs E G p n pn b g) : JS E G p n pn (.If c a b pos) (evIfS t f g) := fun X W hA hT hP => PS.mono (ps_if (hc X W hA hT) (ha X W hA hT hP) (hb X W hA hT hP)) (rd_ifS (fun _ _ _ h => h) (fun _ _ _ h => h) fun _ _ _ h => h)
theorem s_for {q1 : Bool} {rt : Option Nat} {pn' : List Nat} {tg iter : Expr} {body : List Stmt} {pos : Pos} {fs : DS → Option EI} {tgf : D → DS → Option DS} {f : DS → Option ES} (hi : JI E G p q1 tg iter fs) (hr : Rt fs rt) (hrt : ∀ i, rt = some i → i ∈ pn') (hpn : ∀ j ∈ pn, j ∈ pn') (htg : JTg E G p n pn' tg tgf) (hb : JSs E G p n pn' body f) (hit : ∀ env x, foldedSetIterable iter env x = pure x := by exact fun _ _ => rfl) :
    JS E G p n pn (.For tg iter body [] pos) (evFor fs tgf f) := fun X W hA hT hP => by
  obtain ⟨g, hg1, hg2⟩ := htg
  exact PS.mono (ps_for hP hA.calm (hi X W hA hT) (hg2 X hA) (hb X W hA hT hP) (hit _)) (rd_for (fun _ _ _ h => h) hg1 (fun _ _ _ h => h) hpn fun δ i d xs δ' e => hrt i (hr δ i d xs δ' e))
theorem s_whl {qt : Bool} {c : Expr} {body : List Stmt} {pos : Pos} {t : DS → Option EB} {f : DS → Option ES} (k0 : Nat) (hc : JT E G p qt c t) (hb : JSs E G p n pn body f) : JS E G p n pn (.While c body [] pos) (evWhl t f k0) := fun X W hA hT hP => PS.mono (ps_while hP (hc X W hA hT) (hb X W hA hT hP)) (rd_whl (fun _ _ _ h => h) fun _ _ _ h => h)
theorem ss_nil : JSs E G p n pn [] evNx := fun X W hA hT hP => PSs.mono pss_nil rd_nx
theorem ss_cons {st : Stmt} {r : List Stmt} {f g : DS → Option ES} (hs : JS E G p n pn st f) (hr : JSs E G p n pn r g) : JSs E G p n pn (st :: r) (evSeq f g) := fun X W hA hT hP => PSs.mono (pss_cons (hs X W hA hT hP) (hr X W hA hT hP)) (rd_seq (fun _ _ _ h => h) fun _ _ _ h => h)
end
/-- a def's place -/
abbrev fnPl (N : List Str) (k : Nat) (scope : Scope) : Pl := ⟨N, k, scope, fun _ => true⟩
theorem fd_of {E : En} {G : GC} {x : Str} {params : Arguments} {body : List Stmt} {scope : Scope} {dvl : List V} {f : Addr} {fd : FuncData} {N ps : List Str} {k : Nat} {m : Bool} {ev : DS → Option ES} (F : FunD E.K x x params body scope dvl [] f fd) (hm : E.mg x = some (.ref f)) (S : FnScope N ps scope) (hl : ps.length ≤ N.length) (h0 : m = true → 0 < ps.length)
    (hb : JSs E G (fnPl N k scope) N.length (if m = true then [0] else []) body ev) : FnOk E.P E.w E.K E.mg E.base (CX E.P E.w) (k + 1) f fd ps (spF G (fnOf N.length ps.length m ev)) := by
  refine F.ok S (fun vs H Q Ex h => ?_) (fun cdv A outer s H vs Q Ex hr h => ?_)
  · obtain ⟨ds, Z, S, FS, sr, ⟨r, hr⟩, _⟩ := h
    have := fnOf_len hr
    have := sr.len
    simp at this
    omega
  · refine ⟨_, hb _ (fun c dd _ H => Ex c dd H) ⟨rfl, rfl, rfl, rfl, rfl, rfl, hr, rfl, rfl, rfl⟩ (takes_of rfl rfl rfl rfl) (passes_of rfl), ?_⟩
    exact rd_fn (t := rdS G (fun c dd _ H => Ex c dd H) N.length (if m = true then [0] else []) ev) rfl hl h0 (fun _ _ _ h => h) h
theorem fd_all {E : En} {G : GC} {x : Str} {k : Nat} {F : FD} {f : Addr} {fd : FuncData} {ps : List Str} (h : FnOk E.P E.w E.K E.mg E.base (CX E.P E.w) k f fd ps (spF G F)) (hm : E.mg x = some (.ref f)) (hk : PySem.W.keepIn E.K (.ref f) = true) (hb : Binds E.K fd ps []) : Fd E G x k F [] :=
  ⟨f, fd, ps, [], [], h, hm, hk, hb, .nil, fun _ _ => ⟨rfl, fun i d v e => by simp at e⟩⟩
end PD
/-! P, part 17: the law's own promise. -/
namespace PD
open PySem L2
theorem cx_no {P : Program} {w : World} {H : Hp} {s : Shared} {e : Value} {s' : Shared} (h : CX P w [] H s (fun _ _ _ => False) e s') : False := by
  obtain ⟨_, _, _, _, _, _, _, _, _, _, _, _, h⟩ := h
  exact h
/-- what the plain law says -/
def LawOk (F : FD) (ns : List Int) : Prop := ∃ δ, F [.lst .k (ns.map .int)] = some (.ok (.bl true), δ)
theorem law_sp {G : GC} {F : FD} {H : Hp} {a : Addr} {ns : List Int} (hS : SqL G.K H a (ns.map V.int)) (hF : LawOk F ns) : spF G F [.ref a] H (fun v _ => v = V.bl true) fun _ _ _ => False := by
  obtain ⟨δ0, hF⟩ := hF
  have hint : ∀ {Z : AS} (i : Nat) d v, (ns.map D.int)[i]? = some d → (ns.map V.int)[i]? = some v → RepF G Z H d v := fun {Z} i d v e1 e2 => by
    obtain ⟨x, f1, rfl⟩ := getMap e1
    obtain ⟨y, f2, rfl⟩ := getMap e2
    rw [f1] at f2; cases f2
    exact .int _
  have key : ∀ Z : AS, (∀ x, Z x → ∃ o, H x = some o) → RepF G Z H (.lst .k (ns.map .int)) (.ref a) → spF G F [.ref a] H (fun v _ => v = V.bl true) fun _ _ _ => False := fun Z hz r => by
    refine ⟨[.lst .k (ns.map .int)], Z, fun _ => S0, fun _ => S0, ⟨rfl, fun i d e => ?_, fun _ _ _ z => z, fun _ _ _ z => z.elim, hz, fun x ⟨_, z⟩ => z.elim, fun x ⟨_, z⟩ => z.elim⟩, ⟨_, hF⟩, fun d δ' e v H' Z' FS' A p => ?_, fun x δ' e => ?_⟩
    · cases i with
      | zero => simp at e; subst e; exact ⟨_, rfl, .fz r fun _ z => z⟩
      | succ i => simp at e
    · rw [hF] at e
      cases e
      have vl := p.vl
      rw [if_neg Bool.false_ne_true] at vl
      exact vl.1.blV
    · rw [hF] at e; cases e
  rcases hS with hS | hS
  · refine key (fun x => x = a) (fun x e => ?_) (.lsk (.inl ⟨rfl, hS⟩) (by simp) hint)
    subst e
    rcases hS with h | ⟨o, h⟩
    · exact ⟨_, h⟩
    · exact ⟨_, h⟩
  · exact key S0 (fun _ z => z.elim) (.lsk (.inr hS) (by simp) hint)
theorem cx_no' {P : Program} {w : World} {o : List Env} {H : Hp} {s : Shared} {e : Value} {s' : Shared} (h : CX P w o H s (fun _ _ _ => False) e s') : False := by
  obtain ⟨_, _, _, _, _, _, _, _, _, _, _, _, h⟩ := h
  exact h
/-- a def that lets nothing out -/
theorem fnOk0 {P : Program} {w : World} {K : PySem.W.Frag} {mg : Str → Option Value} {base : Heap} {k : Nat} {f : Addr} {fd : FuncData} {ps : List Str} {sp : Sp} (F : FnOk P w K mg base (CX P w) k f fd ps sp) : FnOk P w K mg base CX0 k f fd ps (fun vs H Q _ => sp vs H Q fun _ _ _ => False) where
  len := fun vs H Q E h => F.len vs H Q _ h
  run := fun A outer s H args us vs Q E hr e b v h => codeAny_mono (F.run A outer s H args us vs Q _ hr e b v h) fun r s' h => by
    cases r with
    | ok fl => cases fl <;> exact h
    | error e => exact (cx_no' h).elim
end PD
/-! P, part 18: the evaluator told forwards: what is wanted behind a piece, in terms of what is wanted behind its parts. -/
namespace PD
open PySem L2

def GE {α : Type} (f : DS → Option (RR α × DS)) (δ : DS) (Q : RR α → DS → Prop) : Prop := ∃ r δ', f δ = some (r, δ') ∧ Q r δ'
def Go (f : DS → Option ES) (δ : DS) (Q : Out → DS → Prop) : Prop := ∃ o δ', f δ = some (o, δ') ∧ Q o δ'
def kk {α β : Type} (k : α → DS → Prop) (Q : RR β → DS → Prop) : RR α → DS → Prop
  | .ok a, δ => k a δ
  | .ex x, δ => Q (.ex x) δ
def kS {α : Type} (k : α → DS → Prop) (Q : Out → DS → Prop) : RR α → DS → Prop
  | .ok a, δ => k a δ
  | .ex x, δ => Q (.ex x) δ
/-- what slot i holds -/
def sl (δ : DS) (i : Nat) (k : D → Prop) : Prop := ∃ d, δ[i]? = some (some d) ∧ k d
def has {α : Type} (o : Option α) (k : α → Prop) : Prop := ∃ a, o = some a ∧ k a
theorem kk_ok {α β : Type} {k : α → DS → Prop} {Q : RR β → DS → Prop} {a : α} {δ : DS} : kk k Q (.ok a) δ = k a δ := rfl
theorem kk_ex {α β : Type} {k : α → DS → Prop} {Q : RR β → DS → Prop} {x : Xc} {δ : DS} : kk k Q (.ex x) δ = Q (.ex x) δ := rfl
theorem kS_ok {α : Type} {k : α → DS → Prop} {Q : Out → DS → Prop} {a : α} {δ : DS} : kS k Q (.ok a) δ = k a δ := rfl
theorem kS_ex {α : Type} {k : α → DS → Prop} {Q : Out → DS → Prop} {x : Xc} {δ : DS} : kS k Q (.ex x) δ = Q (.ex x) δ := rfl
theorem has_some {α : Type} {a : α} {k : α → Prop} : has (some a) k = k a := propext ⟨fun ⟨_, e, h⟩ => (by cases e; exact h), fun h => ⟨a, rfl, h⟩⟩
theorem has_none {α : Type} {k : α → Prop} : has (none : Option α) k = False := propext ⟨fun ⟨_, e, _⟩ => (by cases e), False.elim⟩
theorem sl_0 {d : D} {δ : DS} {k : D → Prop} : sl (some d :: δ) 0 k = k d := propext ⟨fun ⟨_, e, h⟩ => (by cases e; exact h), fun h => ⟨d, rfl, h⟩⟩
theorem sl_0n {δ : DS} {k : D → Prop} : sl (none :: δ) 0 k = False := propext ⟨fun ⟨_, e, h⟩ => (by cases e), False.elim⟩
theorem sl_s {o : Option D} {δ : DS} {i : Nat} {k : D → Prop} : sl (o :: δ) (i + 1) k = sl δ i k := rfl
/-- δ with slot i set, for lists written out -/
def st : DS → Nat → Option D → DS
  | [], _, _ => []
  | _ :: δ, 0, d => d :: δ
  | o :: δ, i + 1, d => o :: st δ i d
theorem st_eq : ∀ (δ : DS) (i : Nat) (d : Option D), δ.set i d = st δ i d
  | [], _, _ => rfl
  | _ :: _, 0, _ => rfl
  | o :: δ, i + 1, d => by rw [List.set_cons_succ, st_eq δ i d]; rfl
theorem st_0 {o d : Option D} {δ : DS} : st (o :: δ) 0 d = d :: δ := rfl
theorem st_s {o d : Option D} {δ : DS} {i : Nat} : st (o :: δ) (i + 1) d = o :: st δ i d := rfl
section
variable {α : Type} {Q : RR D → DS → Prop} {QA : RR (List D) → DS → Prop} {QB : RR Bool → DS → Prop} {QI : RR Sr → DS → Prop} {QS : Out → DS → Prop} {δ : DS}
theorem bindG {α β : Type} {f : DS → Option (RR α × DS)} {f' : DS → Option (RR β × DS)} {h : α → DS → Option (RR β × DS)} {Q : RR β → DS → Prop} {δ : DS}
    (e : f' δ = match f δ with | none => none | some (.ex x, δ') => some (.ex x, δ') | some (.ok a, δ') => h a δ') : GE f' δ Q = GE f δ (kk (fun a δ' => ∃ r δ2, h a δ' = some (r, δ2) ∧ Q r δ2) Q) := by
  refine propext ⟨fun ⟨r, δ', e1, q⟩ => ?_, fun ⟨r, δ', e1, q⟩ => ?_⟩
  · rw [e] at e1
    cases e2 : f δ with
    | none => rw [e2] at e1; cases e1
    | some w =>
      obtain ⟨w, δ1⟩ := w
      rw [e2] at e1
      cases w with
      | ok a => exact ⟨.ok a, δ1, e2, r, δ', e1, q⟩
      | ex x => cases e1; exact ⟨.ex x, _, e2, q⟩
  · cases r with
    | ok a =>
      obtain ⟨r, δ2, e2, q⟩ := q
      refine ⟨r, δ2, ?_, q⟩
      rw [e, e1]; exact e2
    | ex x =>
      refine ⟨.ex x, δ', ?_, q⟩
      rw [e, e1]
theorem bindS {α : Type} {f : DS → Option (RR α × DS)} {f' : DS → Option ES} {h : α → DS → Option ES} {Q : Out → DS → Prop} {δ : DS}
    (e : f' δ = match f δ with | none => none | some (.ex x, δ') => some (.ex x, δ') | some (.ok a, δ') => h a δ') : Go f' δ Q = GE f δ (kS (fun a δ' => ∃ r δ2, h a δ' = some (r, δ2) ∧ Q r δ2) Q) := by
  refine propext ⟨fun ⟨r, δ', e1, q⟩ => ?_, fun ⟨r, δ', e1, q⟩ => ?_⟩
  · rw [e] at e1
    cases e2 : f δ with
    | none => rw [e2] at e1; cases e1
    | some w =>
      obtain ⟨w, δ1⟩ := w
      rw [e2] at e1
      cases w with
      | ok a => exact ⟨.ok a, δ1, e2, r, δ', e1, q⟩
      | ex x => cases e1; exact ⟨.ex x, _, e2, q⟩
  · cases r with
    | ok a =>
      obtain ⟨r, δ2, e2, q⟩ := q
      refine ⟨r, δ2, ?_, q⟩
      rw [e, e1]; exact e2
    | ex x =>
      refine ⟨.ex x, δ', ?_, q⟩
      rw [e, e1]
theorem ex2 {α : Type} {a : α} {δ : DS} {Q : α → DS → Prop} : (∃ r δ2, some (a, δ) = some (r, δ2) ∧ Q r δ2) = Q a δ := propext ⟨fun ⟨_, _, e, q⟩ => (by cases e; exact q), fun q => ⟨_, _, rfl, q⟩⟩
theorem ex2n {α : Type} {Q : α → DS → Prop} : (∃ r δ2, (none : Option (α × DS)) = some (r, δ2) ∧ Q r δ2) = False := propext ⟨fun ⟨_, _, e, q⟩ => (by cases e), False.elim⟩
theorem kkc {α β : Type} {k k' : α → DS → Prop} {Q : RR β → DS → Prop} (h : ∀ a δ, k a δ = k' a δ) : kk k Q = kk k' Q := by
  have : k = k' := funext fun a => funext fun δ => h a δ
  rw [this]
theorem kSc {α : Type} {k k' : α → DS → Prop} {Q : Out → DS → Prop} (h : ∀ a δ, k a δ = k' a δ) : kS k Q = kS k' Q := by
  have : k = k' := funext fun a => funext fun δ => h a δ
  rw [this]
theorem hasC {α β : Type} {o : Option α} {g : α → β} {δ : DS} {Q : β → DS → Prop} : (∃ r δ2, (match o with | none => none | some a => some (g a, δ)) = some (r, δ2) ∧ Q r δ2) = has o fun a => Q (g a) δ := by
  cases o with
  | none => rw [has_none]; exact ex2n
  | some a => rw [has_some]; exact ex2
theorem iteC {α : Type} {c : Prop} [Decidable c] {a b : Option (α × DS)} {Q : α → DS → Prop} : (∃ r δ2, (if c then a else b) = some (r, δ2) ∧ Q r δ2) = if c then (∃ r δ2, a = some (r, δ2) ∧ Q r δ2) else ∃ r δ2, b = some (r, δ2) ∧ Q r δ2 := by
  by_cases h : c
  · rw [if_pos h, if_pos h]
  · rw [if_neg h, if_neg h]
theorem iteN {α : Type} {c : Prop} [Decidable c] {a : Option (α × DS)} {Q : α → DS → Prop} : (∃ r δ2, (if c then a else none) = some (r, δ2) ∧ Q r δ2) = (c ∧ ∃ r δ2, a = some (r, δ2) ∧ Q r δ2) := by
  by_cases h : c
  · rw [if_pos h]; exact propext ⟨fun q => ⟨h, q⟩, fun q => q.2⟩
  · rw [if_neg h, ex2n]; exact propext ⟨False.elim, fun q => h q.1⟩
/-! expressions -/
theorem e_cst {d : D} : GE (evCst d) δ Q = Q (.ok d) δ := ex2
theorem e_nil : GE evNil δ QA = QA (.ok []) δ := ex2
theorem e_yes : GE evYes δ QB = QB (.ok true) δ := ex2
theorem slC {β : Type} {i : Nat} {g : D → Option (β × DS)} {Q : β → DS → Prop} : (∃ r δ2, (match δ[i]? with | some (some d) => g d | _ => none) = some (r, δ2) ∧ Q r δ2) = sl δ i fun d => ∃ r δ2, g d = some (r, δ2) ∧ Q r δ2 := by
  unfold sl
  cases e : δ[i]? with
  | none => exact propext ⟨fun ⟨_, _, e, _⟩ => (by cases e), fun ⟨_, e, _⟩ => (by cases e)⟩
  | some o =>
    cases o with
    | none => exact propext ⟨fun ⟨_, _, e, _⟩ => (by cases e), fun ⟨_, e, _⟩ => (by cases e)⟩
    | some d => exact propext ⟨fun h => ⟨d, rfl, h⟩, fun ⟨_, e, h⟩ => (by cases e; exact h)⟩
theorem e_var {i : Nat} : GE (evVar i) δ Q = sl δ i fun d => Q (.ok d) δ := by
  refine Eq.trans (slC (β := RR D) (Q := Q) (δ := δ) (i := i) (g := fun d => some (.ok d, δ))) (congrArg _ (funext fun d => ex2))
theorem e_fv {i : Nat} : GE (evFv i) δ Q = sl δ i fun d => if isF d = true then Q (.ok d) δ else noL d = true ∧ Q (.ok (frz d)) (st δ i (some (frz d))) := by
  refine Eq.trans (slC (β := RR D) (Q := Q) (δ := δ) (i := i) (g := fun d => if isF d then some (.ok d, δ) else if noL d then some (.ok (frz d), δ.set i (some (frz d))) else none)) (congrArg _ (funext fun d => ?_))
  rw [iteC, ex2, iteN, ex2, st_eq]
theorem e_mv {i : Nat} : GE (evMv i) δ Q = sl δ i fun d => noL d = true ∧ Q (.ok d) (st δ i none) := by
  refine Eq.trans (slC (β := RR D) (Q := Q) (δ := δ) (i := i) (g := fun d => if noL d then some (.ok d, δ.set i none) else none)) (congrArg _ (funext fun d => ?_))
  rw [iteN, ex2, st_eq]
theorem e_cons {vw qr : Bool} {fa : DS → Option ER} {fr : DS → Option EA} : GE (evCons vw qr fa fr) δ QA = GE fa δ (kk (fun d δ1 => (vw && !qr && !isF d) = false ∧ GE fr δ1 (kk (fun ds δ2 => QA (.ok (d :: ds)) δ2) QA)) QA) := by
  refine Eq.trans (bindG (h := fun d δ1 => if vw && !qr && !isF d then none else match fr δ1 with | none => none | some (.ex x, δ2) => some (.ex x, δ2) | some (.ok ds, δ2) => some (.ok (d :: ds), δ2)) (by unfold evCons; rcases fa δ with _ | ⟨_ | _, _⟩ <;> rfl)) (congrArg _ (kkc fun d δ1 => ?_))
  have := bindG (f := fr) (f' := fun δ1 => match fr δ1 with | none => none | some (.ex x, δ2) => some (.ex x, δ2) | some (.ok ds, δ2) => some (.ok (d :: ds), δ2)) (h := fun ds δ2 => some (.ok (d :: ds), δ2)) (Q := QA) (δ := δ1) (by rcases fr δ1 with _ | ⟨_ | _, _⟩ <;> rfl)
  rw [show kk (fun ds δ2 => QA (.ok (d :: ds)) δ2) QA = kk (fun ds δ2 => ∃ r δ3, some (RR.ok (d :: ds), δ2) = some (r, δ3) ∧ QA r δ3) QA from kkc fun a b => ex2.symm, ← this]
  rw [iteC, ex2n]
  unfold GE
  cases vw && !qr && !isF d with
  | true => simp
  | false => simp
theorem e_dfr {i : Nat} {fr : DS → Option EA} : GE (evDefer i fr) δ QA = sl δ i fun _ => GE fr δ (kk (fun ds δ2 => sl δ2 i fun d => QA (.ok (d :: ds)) δ2) QA) := by
  refine Eq.trans (slC (β := RR (List D)) (Q := QA) (δ := δ) (i := i) (g := fun _ => match fr δ with | none => none | some (.ex x, δ2) => some (.ex x, δ2) | some (.ok ds, δ2) => match δ2[i]? with | some (some d) => some (.ok (d :: ds), δ2) | _ => none)) (congrArg _ (funext fun d => ?_))
  refine Eq.trans (bindG (f := fr) (f' := fun δ => match fr δ with | none => none | some (.ex x, δ2) => some (.ex x, δ2) | some (.ok ds, δ2) => match δ2[i]? with | some (some d) => some (.ok (d :: ds), δ2) | _ => none) (h := fun ds δ2 => match δ2[i]? with | some (some d) => some (.ok (d :: ds), δ2) | _ => none) (by rcases fr δ with _ | ⟨_ | _, _⟩ <;> rfl)) (congrArg _ (kkc fun ds δ2 => ?_))
  exact Eq.trans (slC (β := RR (List D)) (Q := QA) (δ := δ2) (i := i) (g := fun d => some (.ok (d :: ds), δ2))) (congrArg _ (funext fun d => ex2))
theorem e_op {g : List D → Option D} {fa : DS → Option EA} : GE (evOp g fa) δ Q = GE fa δ (kk (fun ds δ' => has (g ds) fun d => Q (.ok d) δ') Q) :=
  Eq.trans (bindG (h := fun ds δ' => match g ds with | none => none | some d => some (.ok d, δ')) (by unfold evOp; rcases fa δ with _ | ⟨_ | _, _⟩ <;> rfl)) (congrArg _ (kkc fun ds δ' => by generalize g ds = o; cases o with | none => rw [has_none]; exact ex2n | some a => rw [has_some]; exact ex2))
theorem e_tup {ks : List Bool} {fa : DS → Option EA} : GE (evTup ks fa) δ Q = GE fa δ (kk (fun ds δ' => (capOk ks ds && decide (ds.length ≤ 1000)) = true ∧ Q (.ok (.tup (ds.map cap))) δ') Q) :=
  Eq.trans (bindG (h := fun ds δ' => if capOk ks ds && decide (ds.length ≤ 1000) then some (.ok (.tup (ds.map cap)), δ') else none) (by unfold evTup; rcases fa δ with _ | ⟨_ | _, _⟩ <;> rfl)) (congrArg _ (kkc fun _ _ => by rw [iteN, ex2]))
theorem e_lst {ks : List Bool} {fa : DS → Option EA} : GE (evLst ks fa) δ Q = GE fa δ (kk (fun ds δ' => (capOk ks ds && decide (ds.length ≤ 1000)) = true ∧ Q (.ok (.lst .o (ds.map cap))) δ') Q) :=
  Eq.trans (bindG (h := fun ds δ' => if capOk ks ds && decide (ds.length ≤ 1000) then some (.ok (.lst .o (ds.map cap)), δ') else none) (by unfold evLst; rcases fa δ with _ | ⟨_ | _, _⟩ <;> rfl)) (congrArg _ (kkc fun _ _ => by rw [iteN, ex2]))
theorem e_tr {g : D → Option Bool} {f : DS → Option ER} : GE (evTr g f) δ QB = GE f δ (kk (fun d δ' => has (g d) fun b => QB (.ok b) δ') QB) :=
  Eq.trans (bindG (h := fun d δ' => match g d with | none => none | some b => some (.ok b, δ')) (by unfold evTr; rcases f δ with _ | ⟨_ | _, _⟩ <;> rfl)) (congrArg _ (kkc fun d δ' => by generalize g d = o; cases o with | none => rw [has_none]; exact ex2n | some a => rw [has_some]; exact ex2))
theorem e_notT {f : DS → Option EB} : GE (evNotT f) δ QB = GE f δ (kk (fun b δ' => QB (.ok (!b)) δ') QB) :=
  Eq.trans (bindG (h := fun b δ' => some (.ok (!b), δ')) (by unfold evNotT; rcases f δ with _ | ⟨_ | _, _⟩ <;> rfl)) (congrArg _ (kkc fun _ _ => ex2))
theorem e_andT {f g : DS → Option EB} : GE (evAndT f g) δ QB = GE f δ (kk (fun b δ' => if b = true then GE g δ' QB else QB (.ok false) δ') QB) :=
  Eq.trans (bindG (h := fun b δ' => if b = true then g δ' else some (.ok false, δ')) (by unfold evAndT; rcases f δ with _ | ⟨_ | _, _⟩ <;> rfl)) (congrArg _ (kkc fun _ _ => by rw [iteC, ex2]; rfl))
theorem e_orT {f g : DS → Option EB} : GE (evOrT f g) δ QB = GE f δ (kk (fun b δ' => if b = true then QB (.ok true) δ' else GE g δ' QB) QB) :=
  Eq.trans (bindG (h := fun b δ' => if b = true then some (.ok true, δ') else g δ') (by unfold evOrT; rcases f δ with _ | ⟨_ | _, _⟩ <;> rfl)) (congrArg _ (kkc fun _ _ => by rw [iteC, ex2]; rfl))
theorem hasB {β : Type} {o : Option Bool} {δ : DS} {g : Bool → Option (β × DS)} {Q : β → DS → Prop} : (∃ r δ2, (match o with | none => none | some a => g a) = some (r, δ2) ∧ Q r δ2) = has o fun a => ∃ r δ2, g a = some (r, δ2) ∧ Q r δ2 := by
  cases o with
  | none => rw [has_none]; exact ex2n
  | some a => rw [has_some]
theorem e_andV {f g : DS → Option ER} : GE (evAndV f g) δ Q = GE f δ (kk (fun d δ' => has (blD d) fun b => if b = true then GE g δ' Q else Q (.ok (.bl false)) δ') Q) :=
  Eq.trans (bindG (h := fun d δ' => match blD d with | none => none | some b => if b = true then g δ' else some (.ok (.bl false), δ')) (by unfold evAndV; rcases f δ with _ | ⟨_ | _, _⟩ <;> rfl)) (congrArg _ (kkc fun d δ' => by
    generalize blD d = o
    cases o with
    | none => rw [has_none]; exact ex2n
    | some b => rw [has_some]; refine Eq.trans iteC ?_; rw [ex2]; rfl))
theorem e_orV {f g : DS → Option ER} : GE (evOrV f g) δ Q = GE f δ (kk (fun d δ' => has (blD d) fun b => if b = true then Q (.ok (.bl true)) δ' else GE g δ' Q) Q) :=
  Eq.trans (bindG (h := fun d δ' => match blD d with | none => none | some b => if b = true then some (.ok (.bl true), δ') else g δ') (by unfold evOrV; rcases f δ with _ | ⟨_ | _, _⟩ <;> rfl)) (congrArg _ (kkc fun d δ' => by
    generalize blD d = o
    cases o with
    | none => rw [has_none]; exact ex2n
    | some b => rw [has_some]; refine Eq.trans iteC ?_; rw [ex2]; rfl))
theorem e_notV {f : DS → Option ER} : GE (evNotV f) δ Q = GE f δ (kk (fun d δ' => has (blD d) fun b => Q (.ok (.bl (!b))) δ') Q) :=
  Eq.trans (bindG (h := fun d δ' => match blD d with | none => none | some b => some (.ok (.bl (!b)), δ')) (by unfold evNotV; rcases f δ with _ | ⟨_ | _, _⟩ <;> rfl)) (congrArg _ (kkc fun d δ' => by generalize blD d = o; cases o with | none => rw [has_none]; exact ex2n | some a => rw [has_some]; exact ex2))
theorem e_opq {vw : Bool} {f : DS → Option ER} : GE (evOpq vw f) δ Q = GE f δ (kk (fun d δ' => (vw && !isF d) = false ∧ Q (.ok d) δ') Q) :=
  Eq.trans (bindG (h := fun d δ' => if vw && !isF d then none else some (.ok d, δ')) (by unfold evOpq; rcases f δ with _ | ⟨_ | _, _⟩ <;> rfl)) (congrArg _ (kkc fun d δ' => by rw [iteC, ex2n, ex2]; cases vw && !isF d <;> simp))
theorem e_if {t : DS → Option EB} {f g : DS → Option ER} : GE (evIf t f g) δ Q = GE t δ (kk (fun b δ' => if b = true then GE f δ' Q else GE g δ' Q) Q) :=
  Eq.trans (bindG (h := fun b δ' => if b = true then f δ' else g δ') (by unfold evIf; rcases t δ with _ | ⟨_ | _, _⟩ <;> rfl)) (congrArg _ (kkc fun _ _ => by rw [iteC]; rfl))
theorem e_call {F : FD} {ks : List Bool} {dds : List D} {fa : DS → Option EA} : GE (evCall F ks dds fa) δ Q = GE fa δ (kk (fun ds δ' => has (F (argD ks ds ++ dds)) fun r => Q r.1 δ') Q) :=
  Eq.trans (bindG (h := fun ds δ' => match F (argD ks ds ++ dds) with | none => none | some (.ex x, _) => some (.ex x, δ') | some (.ok d, _) => some (.ok d, δ')) (by unfold evCall; rcases fa δ with _ | ⟨_ | _, _⟩ <;> rfl)) (congrArg _ (kkc fun ds δ' => by
    cases e : F (argD ks ds ++ dds) with
    | none => rw [has_none]; exact ex2n
    | some r =>
      obtain ⟨r, δr⟩ := r
      rw [has_some]
      cases r with
      | ok d => exact ex2
      | ex x => exact ex2))
theorem e_callM {F : FD} {i : Nat} {ks : List Bool} {dds : List D} {fr : DS → Option EA} : GE (evCallM F i ks dds fr) δ Q = sl δ i fun _ => GE fr δ (kk (fun ds δ' => sl δ' i fun d => capOk ks ds = true ∧ has (F (d :: (ds.map cap ++ dds))) fun r => Q r.1 (st δ' i (hd0 r.2))) Q) := by
  refine Eq.trans (slC (β := RR D) (Q := Q) (δ := δ) (i := i) (g := fun _ => match fr δ with
    | none => none
    | some (.ex x, δ') => some (.ex x, δ')
    | some (.ok ds, δ') => match δ'[i]? with
      | some (some d) => if capOk ks ds then match F (d :: (ds.map cap ++ dds)) with
        | none => none
        | some (.ex x, δr) => some (.ex x, δ'.set i (hd0 δr))
        | some (.ok r, δr) => some (.ok r, δ'.set i (hd0 δr)) else none
      | _ => none)) (congrArg _ (funext fun d => ?_))
  refine Eq.trans (bindG (f := fr) (f' := fun δ => match fr δ with
    | none => none
    | some (.ex x, δ') => some (.ex x, δ')
    | some (.ok ds, δ') => match δ'[i]? with
      | some (some d) => if capOk ks ds then match F (d :: (ds.map cap ++ dds)) with
        | none => none
        | some (.ex x, δr) => some (.ex x, δ'.set i (hd0 δr))
        | some (.ok r, δr) => some (.ok r, δ'.set i (hd0 δr)) else none
      | _ => none) (h := fun ds δ' => match δ'[i]? with
      | some (some d) => if capOk ks ds then match F (d :: (ds.map cap ++ dds)) with
        | none => none
        | some (.ex x, δr) => some (.ex x, δ'.set i (hd0 δr))
        | some (.ok r, δr) => some (.ok r, δ'.set i (hd0 δr)) else none
      | _ => none) (by rcases fr δ with _ | ⟨_ | _, _⟩ <;> rfl)) (congrArg _ (kkc fun ds δ' => ?_))
  refine Eq.trans (slC (β := RR D) (Q := Q) (δ := δ') (i := i) (g := fun d => if capOk ks ds then match F (d :: (ds.map cap ++ dds)) with
        | none => none
        | some (.ex x, δr) => some (.ex x, δ'.set i (hd0 δr))
        | some (.ok r, δr) => some (.ok r, δ'.set i (hd0 δr)) else none)) (congrArg _ (funext fun d => ?_))
  rw [iteN]
  refine congrArg _ ?_
  cases e : F (d :: (ds.map cap ++ dds)) with
  | none => rw [has_none]; exact ex2n
  | some r =>
    obtain ⟨r, δr⟩ := r
    rw [has_some, ← st_eq]
    cases r with
    | ok d => exact ex2
    | ex x => exact ex2
theorem e_chain {g g' : List D → Option D} {fa fb fc : DS → Option ER} : GE (evChain g g' fa fb fc) δ Q = GE fa δ (kk (fun a δ1 => isF a = true ∧ GE fb δ1 (kk (fun b δ2 => isF b = true ∧ has (g [a, b]) fun d => has (blD d) fun k => if k = true then GE fc δ2 (kk (fun c δ3 => isF c = true ∧ has (g' [b, c]) fun d => has (blD d) fun k => Q (.ok (.bl k)) δ3) Q) else Q (.ok (.bl false)) δ2) Q)) Q) := by
  refine Eq.trans (bindG (f := fa) (h := fun a δ1 => if !isF a then none else match fb δ1 with
    | none => none
    | some (.ex x, δ2) => some (.ex x, δ2)
    | some (.ok b, δ2) => if !isF b then none else match g [a, b] with
      | some (.bl true) => match fc δ2 with
        | none => none
        | some (.ex x, δ3) => some (.ex x, δ3)
        | some (.ok c, δ3) => if !isF c then none else match g' [b, c] with
          | some (.bl k) => some (.ok (.bl k), δ3)
          | _ => none
      | some (.bl false) => some (.ok (.bl false), δ2)
      | _ => none) (by unfold evChain; rcases fa δ with _ | ⟨_ | _, _⟩ <;> rfl)) (congrArg _ (kkc fun a δ1 => ?_))
  rw [iteC, ex2n]
  cases hF : isF a with
  | false => simp
  | true =>
    rw [if_neg (by simp)]
    refine Eq.trans (bindG (α := D) (β := D) (Q := Q) (δ := δ1) (f := fb) (f' := fun δ1 => match fb δ1 with
    | none => none
    | some (.ex x, δ2) => some (.ex x, δ2)
    | some (.ok b, δ2) => if !isF b then none else match g [a, b] with
      | some (.bl true) => match fc δ2 with
        | none => none
        | some (.ex x, δ3) => some (.ex x, δ3)
        | some (.ok c, δ3) => if !isF c then none else match g' [b, c] with
          | some (.bl k) => some (.ok (.bl k), δ3)
          | _ => none
      | some (.bl false) => some (.ok (.bl false), δ2)
      | _ => none) (h := fun b δ2 => if !isF b then none else match g [a, b] with
      | some (.bl true) => match fc δ2 with
        | none => none
        | some (.ex x, δ3) => some (.ex x, δ3)
        | some (.ok c, δ3) => if !isF c then none else match g' [b, c] with
          | some (.bl k) => some (.ok (.bl k), δ3)
          | _ => none
      | some (.bl false) => some (.ok (.bl false), δ2)
      | _ => none) (by rcases fb δ1 with _ | ⟨_ | _, _⟩ <;> rfl)) (by
      rw [show (true = true) = True from by simp, true_and]
      refine congrArg _ (kkc fun b δ2 => ?_)
      rw [iteC, ex2n]
      cases hF : isF b with
      | false => simp
      | true =>
        rw [if_neg (by simp)]
        rw [show (true = true) = True from by simp, true_and]
        cases e : g [a, b] with
        | none => rw [has_none]; exact ex2n
        | some d =>
          rw [has_some]
          cases d with
          | bl k =>
            show _ = has (some k) _
            rw [has_some]
            cases k with
            | false => rw [if_neg Bool.false_ne_true]; exact ex2
            | true =>
              rw [if_pos rfl]
              refine Eq.trans (bindG (α := D) (β := D) (Q := Q) (δ := δ2) (f := fc) (f' := fun δ2 => match fc δ2 with
                | none => none
                | some (.ex x, δ3) => some (.ex x, δ3)
                | some (.ok c, δ3) => if !isF c then none else match g' [b, c] with
                  | some (.bl k) => some (.ok (.bl k), δ3)
                  | _ => none) (h := fun c δ3 => if !isF c then none else match g' [b, c] with
                  | some (.bl k) => some (.ok (.bl k), δ3)
                  | _ => none) (by rcases fc δ2 with _ | ⟨_ | _, _⟩ <;> rfl)) (congrArg _ (kkc fun c δ3 => ?_))
              rw [iteC, ex2n]
              cases hF : isF c with
              | false => simp
              | true =>
                rw [if_neg (by simp)]
                rw [show (true = true) = True from by simp, true_and]
                cases e : g' [b, c] with
                | none => rw [has_none]; exact ex2n
                | some d =>
                  rw [has_some]
                  cases d with
                  | bl k => show _ = has (some k) _; rw [has_some]; exact ex2
                  | _ => show _ = has none _; rw [has_none]; exact ex2n
          | _ => show _ = has none _; rw [has_none]; exact ex2n)
theorem hasA {α β : Type} {o : Option α} {δ : DS} {g : α → Option (β × DS)} {Q : β → DS → Prop} : (∃ r δ2, (match o with | none => none | some a => g a) = some (r, δ2) ∧ Q r δ2) = has o fun a => ∃ r δ2, g a = some (r, δ2) ∧ Q r δ2 := by
  cases o with
  | none => rw [has_none]; exact ex2n
  | some a => rw [has_some]
theorem e_src {rt : Option Nat} {vw : Bool} {f : DS → Option ER} : GE (evSrc rt vw f) δ QI = GE f δ (kk (fun d δ' => has (itemsOf d) fun xs => if (vw && owned d) = true then has rt fun i => QI (.ok (.lent i d xs)) (st δ' i (some (lend d))) else QI (.ok (.all xs)) δ') QI) := by
  refine Eq.trans (bindG (f := f) (h := fun d δ' => match itemsOf d with
    | none => none
    | some xs => if vw && owned d then match rt with
        | none => none
        | some i => some (.ok (.lent i d xs), δ'.set i (some (lend d)))
      else some (.ok (.all xs), δ')) (by unfold evSrc; rcases f δ with _ | ⟨_ | _, _⟩ <;> rfl)) (congrArg _ (kkc fun d δ' => ?_))
  cases itemsOf d with
  | none => rw [has_none]; exact ex2n
  | some xs =>
    rw [has_some]
    cases vw && owned d with
    | false => exact ex2
    | true =>
      cases rt with
      | none => rw [has_none]; exact ex2n
      | some i => rw [has_some, ← st_eq]; exact ex2
theorem e_rng {g : List D → Option (List D)} {f : DS → Option EA} : GE (evRng g f) δ QI = GE f δ (kk (fun ds δ' => has (g ds) fun xs => QI (.ok (.all xs)) δ') QI) :=
  Eq.trans (bindG (h := fun ds δ' => match g ds with | none => none | some xs => some (.ok (.all xs), δ')) (by unfold evRng; rcases f δ with _ | ⟨_ | _, _⟩ <;> rfl)) (congrArg _ (kkc fun ds δ' => by generalize g ds = o; cases o with | none => rw [has_none]; exact ex2n | some a => rw [has_some]; exact ex2))
theorem e_lc {fs : DS → Option EI} {tg : D → DS → Option DS} {t : DS → Option EB} {f : DS → Option ER} {vs : List Nat} : GE (evLc fs tg t f vs) δ Q = GE fs δ (kk (fun s δ' => has (evCmp tg t f vs (srItems s) [] (wipeD vs δ')) fun r => Q (.ok (.lst .o r.1)) (srBack s (backD vs δ' r.2))) Q) :=
  Eq.trans (bindG (h := fun s δ' => match evCmp tg t f vs (srItems s) [] (wipeD vs δ') with | none => none | some (acc, δ2) => some (.ok (.lst .o acc), srBack s (backD vs δ' δ2))) (by unfold evLc; rcases fs δ with _ | ⟨_ | _, _⟩ <;> rfl)) (congrArg _ (kkc fun s δ' => by
    cases e : evCmp tg t f vs (srItems s) [] (wipeD vs δ') with
    | none => rw [has_none]; exact ex2n
    | some r => rw [has_some]; exact ex2))
/-! statements -/
def kQ (k : DS → Prop) (Q : Out → DS → Prop) : Out → DS → Prop
  | .nx, δ => k δ
  | o, δ => Q o δ
theorem kQ_nx {k : DS → Prop} {Q : Out → DS → Prop} : kQ k Q .nx δ = k δ := rfl
theorem kQ_rt {k : DS → Prop} {Q : Out → DS → Prop} {d : D} : kQ k Q (.rt d) δ = Q (.rt d) δ := rfl
theorem kQ_ex {k : DS → Prop} {Q : Out → DS → Prop} {d : Xc} : kQ k Q (.ex d) δ = Q (.ex d) δ := rfl
theorem kQ_bk {k : DS → Prop} {Q : Out → DS → Prop} : kQ k Q .bk δ = Q .bk δ := rfl
theorem kQ_ct {k : DS → Prop} {Q : Out → DS → Prop} : kQ k Q .ct δ = Q .ct δ := rfl
theorem g_nx : Go evNx δ QS = QS .nx δ := ex2
theorem g_retN : Go evRetN δ QS = QS (.rt .non) δ := ex2
theorem g_brk : Go evBrk δ QS = QS .bk δ := ex2
theorem g_cnt : Go evCnt δ QS = QS .ct δ := ex2
theorem g_seq {f g : DS → Option ES} : Go (evSeq f g) δ QS = Go f δ (kQ (fun δ' => Go g δ' QS) QS) := by
  unfold Go evSeq
  cases e : f δ with
  | none => simp
  | some w =>
    obtain ⟨o, δ1⟩ := w
    cases o with
    | nx => exact propext ⟨fun h => ⟨_, _, rfl, h⟩, fun ⟨_, _, e, h⟩ => (by cases e; exact h)⟩
    | bk => exact propext ⟨fun ⟨_, _, e, h⟩ => (by cases e; exact ⟨_, _, rfl, h⟩), fun ⟨_, _, e, h⟩ => (by cases e; exact ⟨_, _, rfl, h⟩)⟩
    | ct => exact propext ⟨fun ⟨_, _, e, h⟩ => (by cases e; exact ⟨_, _, rfl, h⟩), fun ⟨_, _, e, h⟩ => (by cases e; exact ⟨_, _, rfl, h⟩)⟩
    | rt d => exact propext ⟨fun ⟨_, _, e, h⟩ => (by cases e; exact ⟨_, _, rfl, h⟩), fun ⟨_, _, e, h⟩ => (by cases e; exact ⟨_, _, rfl, h⟩)⟩
    | ex x => exact propext ⟨fun ⟨_, _, e, h⟩ => (by cases e; exact ⟨_, _, rfl, h⟩), fun ⟨_, _, e, h⟩ => (by cases e; exact ⟨_, _, rfl, h⟩)⟩
theorem g_drop {f : DS → Option ER} : Go (evDrop f) δ QS = GE f δ (kS (fun _ δ' => QS .nx δ') QS) := Eq.trans (bindS (h := fun _ δ' => some (.nx, δ')) (by unfold evDrop; rcases f δ with _ | ⟨_ | _, _⟩ <;> rfl)) (congrArg _ (kSc fun _ _ => ex2))
theorem g_ret {f : DS → Option ER} : Go (evRet f) δ QS = GE f δ (kS (fun d δ' => QS (.rt d) δ') QS) := Eq.trans (bindS (h := fun d δ' => some (.rt d, δ')) (by unfold evRet; rcases f δ with _ | ⟨_ | _, _⟩ <;> rfl)) (congrArg _ (kSc fun _ _ => ex2))
theorem g_asg {i : Nat} {f : DS → Option ER} : Go (evAsg i f) δ QS = GE f δ (kS (fun d δ' => QS .nx (st δ' i (some d))) QS) := Eq.trans (bindS (h := fun d δ' => some (.nx, δ'.set i (some d))) (by unfold evAsg; rcases f δ with _ | ⟨_ | _, _⟩ <;> rfl)) (congrArg _ (kSc fun _ _ => by rw [st_eq]; exact ex2))
theorem g_if {t : DS → Option EB} {f g : DS → Option ES} : Go (evIfS t f g) δ QS = GE t δ (kS (fun b δ' => if b = true then Go f δ' QS else Go g δ' QS) QS) := Eq.trans (bindS (h := fun b δ' => if b = true then f δ' else g δ') (by unfold evIfS; rcases t δ with _ | ⟨_ | _, _⟩ <;> rfl)) (congrArg _ (kSc fun _ _ => by rw [iteC]; rfl))
theorem g_for {fs : DS → Option EI} {tg : D → DS → Option DS} {body : DS → Option ES} : Go (evFor fs tg body) δ QS = GE fs δ (kS (fun s δ' => has (evForL tg body (srItems s) δ') fun r => QS r.1 (srBack s r.2)) QS) :=
  Eq.trans (bindS (h := fun s δ' => match evForL tg body (srItems s) δ' with | none => none | some (o, δ2) => some (o, srBack s δ2)) (by unfold evFor; rcases fs δ with _ | ⟨_ | _, _⟩ <;> rfl)) (congrArg _ (kSc fun s δ' => by
    cases e : evForL tg body (srItems s) δ' with
    | none => rw [has_none]; exact ex2n
    | some r => rw [has_some]; exact ex2))
def isLst : D → Bool
  | .lst _ _ => true
  | _ => false
def lstO : D → Option (List D)
  | .lst .o xs => some xs
  | _ => none
theorem g_app {i : Nat} {f : DS → Option ER} : Go (evApp i f) δ QS = sl δ i fun d0 => isLst d0 = true ∧ GE f δ (kS (fun d δ' => sl δ' i fun d1 => has (lstO d1) fun xs => xs.length < 1000000 ∧ QS .nx (st δ' i (some (.lst .o (xs ++ [cap d]))))) QS) := by
  have inner : ∀ (d : D) (δ' : DS), (∃ r δ2, (match δ'[i]? with
      | some (some (.lst .o xs)) => if xs.length < 1000000 then some (Out.nx, δ'.set i (some (.lst .o (xs ++ [cap d])))) else none
      | _ => none) = some (r, δ2) ∧ QS r δ2) = sl δ' i fun d1 => has (lstO d1) fun xs => xs.length < 1000000 ∧ QS .nx (st δ' i (some (.lst .o (xs ++ [cap d])))) := fun d δ' => by
    unfold sl
    cases e : δ'[i]? with
    | none => exact Eq.trans ex2n (propext ⟨False.elim, fun ⟨_, e, _⟩ => (by cases e)⟩)
    | some o =>
      cases o with
      | none => exact Eq.trans ex2n (propext ⟨False.elim, fun ⟨_, e, _⟩ => (by cases e)⟩)
      | some d1 =>
        refine Eq.trans ?_ (show has (lstO d1) _ = _ from propext ⟨fun h => ⟨d1, rfl, h⟩, fun ⟨_, e, h⟩ => (by cases e; exact h)⟩)
        cases d1 with
        | lst m xs =>
          cases m with
          | o => rw [show lstO (.lst .o xs) = some xs from rfl, has_some, ← st_eq]; exact Eq.trans iteN (congrArg _ ex2)
          | _ => rw [show lstO _ = none from rfl, has_none]; exact ex2n
        | _ => rw [show lstO _ = none from rfl, has_none]; exact ex2n
  have mid : ∀ g : DS → Option ES, g = (fun δ => match f δ with
      | none => none
      | some (.ex x, δ') => some (.ex x, δ')
      | some (.ok d, δ') => match δ'[i]? with
        | some (some (.lst .o xs)) => if xs.length < 1000000 then some (.nx, δ'.set i (some (.lst .o (xs ++ [cap d])))) else none
        | _ => none) → Go g δ QS = GE f δ (kS (fun d δ' => sl δ' i fun d1 => has (lstO d1) fun xs => xs.length < 1000000 ∧ QS .nx (st δ' i (some (.lst .o (xs ++ [cap d]))))) QS) := fun g eg => by
    subst eg
    exact Eq.trans (bindS (f := f) (h := fun d δ' => match δ'[i]? with
        | some (some (.lst .o xs)) => if xs.length < 1000000 then some (.nx, δ'.set i (some (.lst .o (xs ++ [cap d])))) else none
        | _ => none) (by rcases f δ with _ | ⟨_ | _, _⟩ <;> rfl)) (congrArg _ (kSc fun d δ' => inner d δ'))
  rw [← mid _ rfl]
  unfold Go evApp sl
  cases e : δ[i]? with
  | none => exact Eq.trans ex2n (propext ⟨False.elim, fun ⟨_, e, _⟩ => (by cases e)⟩)
  | some o =>
    cases o with
    | none => exact Eq.trans ex2n (propext ⟨False.elim, fun ⟨_, e, _⟩ => (by cases e)⟩)
    | some d1 =>
      cases d1 with
      | lst m xs => exact propext ⟨fun h => ⟨_, rfl, rfl, h⟩, fun ⟨_, e, _, h⟩ => h⟩
      | _ => exact Eq.trans ex2n (propext ⟨False.elim, fun ⟨_, e, q, _⟩ => (by cases e; exact Bool.noConfusion q)⟩)
def setK (i : Nat) (d kd : D) (δ2 : DS) : Option ES := match kd, δ2[i]? with
  | .int k, some (some (.lst .o xs)) => match ixN xs.length k with
    | some j => some (.nx, δ2.set i (some (.lst .o (xs.set j (cap d)))))
    | none => none
  | _, _ => none
theorem g_set {i : Nat} {f fk : DS → Option ER} : Go (evSet i f fk) δ QS = GE f δ (kS (fun d δ' => sl δ' i fun _ => GE fk δ' (kS (fun kd δ2 => has (intD kd) fun k => sl δ2 i fun d1 => has (lstO d1) fun xs => has (ixN xs.length k) fun j => QS .nx (st δ2 i (some (.lst .o (xs.set j (cap d)))))) QS)) QS) := by
  have inner : ∀ (d kd : D) (δ2 : DS), (∃ r δ3, setK i d kd δ2 = some (r, δ3) ∧ QS r δ3) = has (intD kd) fun k => sl δ2 i fun d1 => has (lstO d1) fun xs => has (ixN xs.length k) fun j => QS .nx (st δ2 i (some (.lst .o (xs.set j (cap d))))) := fun d kd δ2 => by
    unfold setK
    cases kd with
    | int k =>
      rw [show intD (.int k) = some k from rfl, has_some]
      unfold sl
      cases e : δ2[i]? with
      | none => exact Eq.trans ex2n (propext ⟨False.elim, fun ⟨_, e, _⟩ => (by cases e)⟩)
      | some o =>
        cases o with
        | none => exact Eq.trans ex2n (propext ⟨False.elim, fun ⟨_, e, _⟩ => (by cases e)⟩)
        | some d1 =>
          refine Eq.trans ?_ (show has (lstO d1) _ = _ from propext ⟨fun h => ⟨d1, rfl, h⟩, fun ⟨_, e, h⟩ => (by cases e; exact h)⟩)
          cases d1 with
          | lst m xs =>
            cases m with
            | o =>
              rw [show lstO (.lst .o xs) = some xs from rfl, has_some]
              show (∃ r δ3, (match ixN xs.length k with | some j => some (Out.nx, δ2.set i (some (.lst .o (xs.set j (cap d))))) | none => none) = some (r, δ3) ∧ QS r δ3) = _
              cases ixN xs.length k with
              | none => rw [has_none]; exact ex2n
              | some j => rw [has_some, ← st_eq]; exact ex2
            | _ => rw [show lstO _ = none from rfl, has_none]; exact ex2n
          | _ => rw [show lstO _ = none from rfl, has_none]; exact ex2n
    | _ => rw [show intD _ = none from rfl, has_none]; exact ex2n
  refine Eq.trans (bindS (f := f) (h := fun d δ' => match δ'[i]? with
    | some (some _) => match fk δ' with
      | none => none
      | some (.ex x, δ2) => some (.ex x, δ2)
      | some (.ok kd, δ2) => setK i d kd δ2
    | _ => none) (by
      unfold evSet
      rcases f δ with _ | ⟨d | _, δ'⟩
      · rfl
      · dsimp only
        generalize δ'[i]? = o
        rcases o with _ | _ | _
        · rfl
        · rfl
        · dsimp only
          generalize fk δ' = q
          rcases q with _ | ⟨kd | _, δ2⟩ <;> rfl
      · rfl)) (congrArg _ (kSc fun d δ' => ?_))
  have mid : ∀ g : DS → Option ES, g = (fun δ' => match fk δ' with
      | none => none
      | some (.ex x, δ2) => some (.ex x, δ2)
      | some (.ok kd, δ2) => setK i d kd δ2) → Go g δ' QS = GE fk δ' (kS (fun kd δ2 => has (intD kd) fun k => sl δ2 i fun d1 => has (lstO d1) fun xs => has (ixN xs.length k) fun j => QS .nx (st δ2 i (some (.lst .o (xs.set j (cap d)))))) QS) := fun g eg => by
    subst eg
    exact Eq.trans (bindS (f := fk) (h := fun kd δ2 => setK i d kd δ2) (by rcases fk δ' with _ | ⟨_ | _, _⟩ <;> rfl)) (congrArg _ (kSc fun kd δ2 => inner d kd δ2))
  rw [← mid _ rfl]
  unfold Go sl
  cases e : δ'[i]? with
  | none => exact Eq.trans ex2n (propext ⟨False.elim, fun ⟨_, e, _⟩ => (by cases e)⟩)
  | some o =>
    cases o with
    | none => exact Eq.trans ex2n (propext ⟨False.elim, fun ⟨_, e, _⟩ => (by cases e)⟩)
    | some d1 => exact propext ⟨fun h => ⟨_, rfl, h⟩, fun ⟨_, e, h⟩ => h⟩
/-! functions -/
theorem fn_go {n np : Nat} {m : Bool} {ev : DS → Option ES} {ds : List D} {r : ER} (hl : ds.length = np) (h : Go ev (ds.map some ++ List.replicate (n - np) none) fun o δ => (match o with | .rt d => some (.ok d, outD np m δ) | .nx => some (.ok .non, outD np m δ) | .ex x => some (.ex x, outD np m δ) | _ => none) = some r) : fnOf n np m ev ds = some r := by
  obtain ⟨o, δ', e, q⟩ := h
  unfold fnOf
  rw [if_pos hl, e]
  cases o <;> exact q
end
end PD
/-! P, part 19: what the operations give, told for the simplifier. -/
namespace PD
open PySem L2
section
variable {i j : Int} {a b : Bool} {m : Fl} {xs ys : List D} {d x : D} {z : Str}
theorem v_add : gAdd [.int i, .int j] = some (.int (i + j)) := rfl
theorem v_sub : gSub [.int i, .int j] = some (.int (i - j)) := rfl
theorem v_mod (h : 0 < j) : gMod [.int i, .int j] = some (.int (i % j)) := if_pos h
theorem v_div (h : 0 < j ∧ j < 1073741824) : gDiv [.int i, .int j] = some (.int (i / j)) := if_pos h
theorem v_mul (h : mulOk i j = true) : gMul [.int i, .int j] = some (.int (i * j)) := if_pos h
theorem v_neg : gNeg [.int i] = some (.int (-i)) := rfl
theorem v_lt : gLt [.int i, .int j] = some (.bl (decide (i < j))) := rfl
theorem v_le : gLe [.int i, .int j] = some (.bl (decide (i ≤ j))) := rfl
theorem v_gt : gGt [.int i, .int j] = some (.bl (decide (j < i))) := rfl
theorem v_ge : gGe [.int i, .int j] = some (.bl (decide (j ≤ i))) := rfl
theorem v_eqi : gEq [.int i, .int j] = some (.bl (decide (i = j))) := by
  show some (D.bl (eqD (.int i) (.int j))) = _
  have : eqD (.int i) (.int j) = decide (i = j) := by
    unfold eqD toP
    rw [Bool.eq_iff_iff]
    simp [PyData.eqv]
  rw [this]
theorem v_nei : gNe [.int i, .int j] = some (.bl (!decide (i = j))) := by
  have : eqD (.int i) (.int j) = decide (i = j) := by
    unfold eqD toP
    rw [Bool.eq_iff_iff]
    simp [PyData.eqv]
  show some (D.bl (!eqD (.int i) (.int j))) = _
  rw [this]
theorem v_is : gIs [d, .non] = some (.bl (isNon d)) := rfl
theorem v_isNot : gIsNot [d, .non] = some (.bl (!isNon d)) := rfl
theorem v_len : gLen [.lst m xs] = some (.int xs.length) := rfl
theorem v_lenT : gLen [.tup xs] = some (.int xs.length) := rfl
theorem v_abs : gAbs [.int i] = some (.int (if i < 0 then -i else i)) := rfl
theorem v_int : gIntOf [.int i] = some (.int i) := rfl
theorem v_item : gItem [.lst m xs, .int i] = (atI xs i).bind fun d => if isF d then some d else none := rfl
theorem v_itemT : gItem [.tup xs, .int i] = atI xs i := rfl
theorem v_list : gList [.lst m xs] = if shal m then some (.lst .o xs) else none := rfl
theorem v_max : gMax2 [.int i, .int j] = some (.int (max i j)) := by
  show some (D.int (if j > i then j else i)) = _
  have : (if j > i then j else i) = max i j := by split <;> omega
  rw [this]
theorem v_min : gMin2 [.int i, .int j] = some (.int (min i j)) := by
  show some (D.int (if j < i then j else i)) = _
  have : (if j < i then j else i) = min i j := by split <;> omega
  rw [this]
theorem mulL (h : (decide (-(2 ^ 64) < i) && decide (i < 2 ^ 64)) = true) : mulOk i j = true := by unfold mulOk; rw [h]; rfl
theorem at_0 {x : D} : L2.atI (x :: xs) 0 = some x := by
  unfold L2.atI L2.ixN
  rw [if_pos (by omega), if_pos (by simp <;> omega)]; rfl
theorem at_1 {x y : D} : L2.atI (x :: y :: xs) 1 = some y := by
  unfold L2.atI L2.ixN
  rw [if_pos (by omega), if_pos (by simp; omega)]; rfl
theorem at_2 {x y w : D} : L2.atI (x :: y :: w :: xs) 2 = some w := by
  unfold L2.atI L2.ixN
  rw [if_pos (by omega), if_pos (by simp; omega)]; rfl
theorem at_nat {k : Nat} (h : k < xs.length) : L2.atI xs (k : Int) = some xs[k] := by
  unfold L2.atI L2.ixN
  rw [if_pos (by omega), if_pos (by omega)]
  simp [h]
theorem at_last {x : D} : L2.atI (xs ++ [x]) (-1) = some x := by
  unfold L2.atI L2.ixN
  rw [if_neg (by omega), if_pos (by simp <;> omega)]
  have : (-1 + ((xs ++ [x]).length : Int)).toNat = xs.length := by simp; omega
  simp only [Option.bind_some, this]
  simp
theorem ixN_last {n : Nat} : ixN (n + 1) (-1) = some n := by
  unfold L2.ixN
  rw [if_neg (by omega), if_pos (by omega)]
  have : (-1 + ((n + 1 : Nat) : Int)).toNat = n := by omega
  rw [this]
theorem ixN_lit {n k : Nat} (h : k < n) : ixN n (k : Int) = some k := by
  unfold L2.ixN
  rw [if_pos (by omega), if_pos (by omega)]; rfl
theorem ix_0 {x : D} : L2.ixN (x :: xs).length 0 = some 0 := by
  unfold L2.ixN
  rw [if_pos (by omega), if_pos (by simp <;> omega)]; rfl
theorem ix_1 {x y : D} : L2.ixN (x :: y :: xs).length 1 = some 1 := by
  unfold L2.ixN
  rw [if_pos (by omega), if_pos (by simp <;> omega)]; rfl
theorem ix_2 {x y w : D} : L2.ixN (x :: y :: w :: xs).length 2 = some 2 := by
  unfold L2.ixN
  rw [if_pos (by omega), if_pos (by simp <;> omega)]; rfl
theorem cap_i : cap (.int i) = .int i := rfl
theorem cap_t : cap (.tup xs) = .tup xs := rfl
theorem noL_i : noL (.int i) = true := rfl
theorem noL_n : noL .non = true := rfl
theorem noL_b : noL (.bl a) = true := rfl
theorem noL_t : noL (.tup xs) = true := rfl
theorem ck_0 {ds : List D} : capOk [] ds = true := by unfold capOk; rfl
theorem ck_s {k : Bool} {ks : List Bool} {d : D} {ds : List D} : capOk (k :: ks) (d :: ds) = ((!k || isF d) && capOk ks ds) := rfl
theorem lk_0 : decide (([] : List D).length ≤ 1000) = true := rfl
theorem lk_1 {x : D} : decide ([x].length ≤ 1000) = true := rfl
theorem lk_2 {x y : D} : decide ([x, y].length ≤ 1000) = true := rfl
theorem lk_3 {x y w : D} : decide ([x, y, w].length ≤ 1000) = true := rfl
theorem lk_4 {x y w u : D} : decide ([x, y, w, u].length ≤ 1000) = true := rfl
theorem ln_0 : (([] : List D).length ≤ 1000) = True := eq_true (Nat.zero_le _)
theorem ln_1 {x : D} : ([x].length ≤ 1000) = True := eq_true (by simp)
theorem ln_2 {x y : D} : ([x, y].length ≤ 1000) = True := eq_true (by simp)
theorem ln_3 {x y w : D} : ([x, y, w].length ≤ 1000) = True := eq_true (by simp)
theorem ln_4 {x y w u : D} : ([x, y, w, u].length ≤ 1000) = True := eq_true (by simp)
theorem own_o : owned (.lst .o xs) = true := rfl
theorem its_o : itemsOf (.lst .o xs) = some xs := rfl
theorem its_l : itemsOf (.lst .l xs) = some xs := rfl
theorem its_f : itemsOf (.lst .f xs) = some xs := rfl
theorem own_l : owned (.lst .l xs) = false := rfl
theorem own_f : owned (.lst .f xs) = false := rfl
theorem lend_o : lend (.lst .o xs) = .lst .l xs := rfl
theorem lend_i : lend (.int i) = .int i := rfl
theorem lend_b : lend (.bl a) = .bl a := rfl
theorem lend_n : lend .non = .non := rfl
theorem lend_s : lend (.str z) = .str z := rfl
theorem lend_t : lend (.tup xs) = .tup xs := rfl
theorem cap_o : cap (.lst .o xs) = .lst .f xs := rfl
theorem cap_k : cap (.lst .k xs) = .lst .k xs := rfl
theorem cap_f : cap (.lst .f xs) = .lst .f xs := rfl
theorem lend_l : lend (.lst .l xs) = .lst .l xs := rfl
theorem lend_f : lend (.lst .f xs) = .lst .f xs := rfl
theorem sh_o : shal .o = true := rfl
theorem sh_l : shal .l = true := rfl
theorem sh_f : shal .f = true := rfl
theorem sh_k : shal .k = true := rfl
theorem bind_S {α β : Type} {a : α} {f : α → Option β} : (some a).bind f = f a := rfl
theorem v_repr : gRepr [.bl a] = some (.str (Str.ofString (if a then "True" else "False"))) := rfl
theorem blD_bl : blD (.bl a) = some a := rfl
theorem truD_bl : truD (.bl a) = some a := rfl
theorem truD_lst : truD (.lst m xs) = some (!xs.isEmpty) := rfl
theorem itemsOf_lst (h : shal m = true) : itemsOf (.lst m xs) = some xs := if_pos h
theorem isF_int : isF (.int i) = true := rfl
theorem isF_bl : isF (.bl a) = true := rfl
theorem isF_non : isF .non = true := rfl
theorem isF_tup : isF (.tup xs) = true := rfl
theorem isF_str : isF (.str z) = true := rfl
theorem isF_lf : isF (.lst .f xs) = true := rfl
theorem isF_lk : isF (.lst .k xs) = true := rfl
theorem isF_lo : isF (.lst .o xs) = false := rfl
theorem isF_ll : isF (.lst .l xs) = false := rfl
theorem cap_F (h : isF d = true) : cap d = d := if_pos h
theorem lend_F {d : D} (h : isF d = true) : lend d = d := by
  cases d with
  | lst m xs => cases m <;> first | rfl | (exact absurd (show false = true from h) Bool.false_ne_true)
  | dic m xs => cases m <;> first | rfl | (exact absurd (show false = true from h) Bool.false_ne_true)
  | dit m xs => cases m <;> first | rfl | (exact absurd (show false = true from h) Bool.false_ne_true)
  | ins m c xs => cases m <;> first | rfl | (exact absurd (show false = true from h) Bool.false_ne_true)
  | _ => rfl
end
/-! loops -/
def kL (k : DS → Prop) (K : ES → Prop) : Out → DS → Prop
  | .nx, δ => k δ
  | .ct, δ => k δ
  | .bk, δ => K (.nx, δ)
  | .rt v, δ => K (.rt v, δ)
  | .ex x, δ => K (.ex x, δ)
section
variable {k : DS → Prop} {K : ES → Prop} {δ : DS} {d : D} {ds : List D} {is : List Nat} {n : Nat}
theorem kL_nx : kL k K .nx δ = k δ := rfl
theorem kL_ct : kL k K .ct δ = k δ := rfl
theorem kL_bk : kL k K .bk δ = K (.nx, δ) := rfl
theorem kL_rt : kL k K (.rt d) δ = K (.rt d, δ) := rfl
theorem forL_0 {tg : D → DS → Option DS} {body : DS → Option ES} : has (evForL tg body [] δ) K = K (.nx, δ) := has_some
theorem forL_s {tg : D → DS → Option DS} {body : DS → Option ES} {r : List D} : has (evForL tg body (d :: r) δ) K = has (tg d δ) fun δ1 => Go body δ1 (kL (fun δ2 => has (evForL tg body r δ2) K) K) := by
  rw [evForL]
  cases tg d δ with
  | none => rw [has_none]; exact has_none.symm
  | some δ1 =>
    rw [has_some]
    unfold Go
    show has (match body δ1 with | none => none | some (.nx, δ2) => evForL tg body r δ2 | some (.ct, δ2) => evForL tg body r δ2 | some (.bk, δ2) => some (.nx, δ2) | some (.rt v, δ2) => some (.rt v, δ2) | some (.ex x, δ2) => some (.ex x, δ2)) K = _
    cases body δ1 with
    | none => exact Eq.trans has_none (propext ⟨False.elim, fun ⟨_, _, e, _⟩ => (by cases e)⟩)
    | some w =>
      obtain ⟨o, δ2⟩ := w
      refine Eq.trans ?_ (show kL (fun δ2 => has (evForL tg body r δ2) K) K o δ2 = _ from propext ⟨fun h => ⟨_, _, rfl, h⟩, fun ⟨_, _, e, h⟩ => (by cases e; exact h)⟩)
      cases o with
      | nx => rfl
      | ct => rfl
      | bk => exact has_some
      | rt v => exact has_some
      | ex x => exact has_some
theorem tg_n {i : Nat} : tgName i d δ = some (st δ i (some d)) := by unfold tgName; rw [st_eq]
theorem tg_t {xs : List D} : tgTup is (.tup xs) δ = tgNames is xs δ := rfl
theorem tg_0 : tgNames [] [] δ = some δ := rfl
theorem tg_s {i : Nat} : tgNames (i :: is) (d :: ds) δ = tgNames is ds (st δ i (some d)) := by rw [tgNames, st_eq]
theorem wp_0 : wipeD [] δ = δ := rfl
theorem wp_s {v : Nat} {vs : List Nat} : wipeD (v :: vs) δ = st (wipeD vs δ) v none := by rw [wipeD, st_eq]
/-- what slot i holds, or nothing -/
def rd : DS → Nat → Option D
  | [], _ => none
  | o :: _, 0 => o
  | _ :: δ, i + 1 => rd δ i
theorem rd_eq : ∀ (δ : DS) (i : Nat), (δ[i]?).getD none = rd δ i
  | [], _ => rfl
  | o :: _, 0 => rfl
  | _ :: δ, i + 1 => by rw [List.getElem?_cons_succ]; exact rd_eq δ i
theorem rd_0 {o : Option D} : rd (o :: δ) 0 = o := rfl
theorem rd_s {o : Option D} {i : Nat} : rd (o :: δ) (i + 1) = rd δ i := rfl
theorem bk_0 {δ0 : DS} : backD [] δ0 δ = δ := rfl
theorem bk_s {δ0 : DS} {v : Nat} {vs : List Nat} : backD (v :: vs) δ0 δ = st (backD vs δ0 δ) v (rd δ0 v) := by rw [backD, st_eq, rd_eq]
theorem hd_0 {o : Option D} : hd0 (o :: δ) = o := rfl
theorem sb_a {xs : List D} : srBack (.all xs) δ = δ := rfl
theorem sb_l {xs : List D} {i : Nat} : srBack (.lent i d xs) δ = st δ i (some d) := by
  show δ.set i (some d) = _
  rw [st_eq]
theorem si_a {xs : List D} : srItems (.all xs) = xs := rfl
theorem si_l {xs : List D} {i : Nat} : srItems (.lent i d xs) = xs := rfl
theorem out_t : outD n true δ = hd0 δ :: List.replicate (n - 1) none := rfl
theorem out_f : outD n false δ = List.replicate n none := rfl
/-- a comprehension that changes nothing -/
theorem cmp_pure {tg : D → DS → Option DS} {t : DS → Option EB} {f : DS → Option ER} {vs : List Nat} {p : D → Bool} {h : D → D} : ∀ (xs acc : List D), acc.length + xs.length ≤ 1000000 →
    (∀ d ∈ xs, has (tg d δ) fun δ1 => GE t δ1 fun r δ2 => r = .ok (p d) ∧ if p d = true then (GE f δ2 fun r δ3 => r = .ok (h d) ∧ wipeD vs δ3 = δ) else wipeD vs δ2 = δ) →
    evCmp tg t f vs xs acc δ = some (acc ++ (xs.filter p).map fun d => cap (h d), δ)
  | [], acc, _, _ => by simp [evCmp]
  | d :: r, acc, hl, hh => by
    obtain ⟨δ1, e1, b, δ2, e2, rfl, h2⟩ := hh d List.mem_cons_self
    have hr := fun acc' (hl' : acc'.length + r.length ≤ 1000000) => cmp_pure r acc' hl' fun d hd => hh d (List.mem_cons_of_mem _ hd)
    simp only [List.length_cons] at hl
    rw [evCmp, e1]
    simp only [e2]
    by_cases hp : p d = true
    · rw [if_pos hp] at h2
      obtain ⟨y, δ3, e3, rfl, e4⟩ := h2
      rw [if_pos hp, e3]
      simp only
      rw [if_pos (by omega), e4, hr _ (by simp; omega), List.filter_cons_of_pos hp]
      simp
    · rw [if_neg hp] at h2
      rw [if_neg hp, h2, hr _ (by omega), List.filter_cons_of_neg hp]
end
end PD
/-! P, part 20: lists of a kind: equal, sorted, one in another. -/
namespace PD
open PySem L2
theorem eqvAll_of {α : Type} [DecidableEq α] {f : α → D} (h : ∀ a b, eqD (f a) (f b) = decide (a = b)) : ∀ xs ys : List α, PyData.eqvAll (toPL (xs.map f)) (toPL (ys.map f)) = decide (xs = ys)
  | [], [] => by simp [toPL, PyData.eqvAll]
  | [], y :: ys => by simp [toPL, PyData.eqvAll]
  | x :: xs, [] => by simp [toPL, PyData.eqvAll]
  | x :: xs, y :: ys => by
    have e : PyData.eqv (toP (f x)) (toP (f y)) = decide (x = y) := h x y
    rw [List.map_cons, List.map_cons, toPL, toPL, PyData.eqvAll, e, eqvAll_of h xs ys]
    by_cases h1 : x = y <;> by_cases h2 : xs = ys <;> simp [h1, h2]
theorem dpL_of {α : Type} {f : α → D} {n : Nat} (h : ∀ a, dp n (f a) = true) (xs : List α) : dpL n (xs.map f) = true := by
  rw [dpL_all, List.all_eq_true]
  intro d hd
  obtain ⟨a, _, rfl⟩ := List.mem_map.mp hd
  exact h a
section
variable {α : Type} [DecidableEq α] {f : α → D} {m n : Fl} {xs ys : List α} {a : α}
theorem eqD_l (h : ∀ a b, eqD (f a) (f b) = decide (a = b)) : eqD (.lst m (xs.map f)) (.lst n (ys.map f)) = decide (xs = ys) := by
  unfold eqD
  rw [toP, toP, PyData.eqv, eqvAll_of h]
theorem eqD_t (h : ∀ a b, eqD (f a) (f b) = decide (a = b)) : eqD (.tup (xs.map f)) (.tup (ys.map f)) = decide (xs = ys) := by
  unfold eqD
  rw [toP, toP, PyData.eqv, eqvAll_of h]
theorem v_eqL (h : ∀ a b, eqD (f a) (f b) = decide (a = b)) (hd : ∀ a, dp 59 (f a) = true) : gEq [.lst m (xs.map f), .lst n (ys.map f)] = some (.bl (decide (xs = ys))) := by
  show (if dp 60 _ && dp 60 _ then some (D.bl (eqD _ _)) else none) = _
  rw [dp, dp, dpL_of hd, dpL_of hd, eqD_l h]; rfl
theorem v_neL (h : ∀ a b, eqD (f a) (f b) = decide (a = b)) (hd : ∀ a, dp 59 (f a) = true) : gNe [.lst m (xs.map f), .lst n (ys.map f)] = some (.bl (!decide (xs = ys))) := by
  show (if dp 60 _ && dp 60 _ then some (D.bl (!eqD _ _)) else none) = _
  rw [dp, dp, dpL_of hd, dpL_of hd, eqD_l h]; rfl
theorem v_neNil (h : ∀ a b, eqD (f a) (f b) = decide (a = b)) (hd : ∀ a, dp 59 (f a) = true) : gNe [.lst m (xs.map f), .lst n []] = some (.bl (!decide (xs = []))) := v_neL (ys := []) h hd
theorem v_in (h : ∀ a b, eqD (f a) (f b) = decide (a = b)) (hd : ∀ a, dp 60 (f a) = true) (hs : ∀ z, f a ≠ .str z) : gIn [f a, .lst m (xs.map f)] = some (.bl (decide (a ∈ xs))) := by
  have e : gIn [f a, .lst m (xs.map f)] = if dp 60 (f a) && dpL 60 (xs.map f) then some (.bl ((xs.map f).any fun y => eqD y (f a))) else none := by
    unfold gIn
    split
    · rename_i e; simp at e
    · rename_i e; simp at e; rw [e.1, e.2.2]
    · rename_i e; simp at e
    · rename_i h1 h2 h3; exact (h2 _ _ _ rfl).elim
  rw [e, hd, dpL_of hd]
  have : ((xs.map f).any fun y => eqD y (f a)) = decide (a ∈ xs) := by
    rw [Bool.eq_iff_iff]
    simp [h]
  rw [this]; rfl
theorem v_notIn (h : ∀ a b, eqD (f a) (f b) = decide (a = b)) (hd : ∀ a, dp 60 (f a) = true) (hs : ∀ z, f a ≠ .str z) : gNotIn [f a, .lst m (xs.map f)] = some (.bl (!decide (a ∈ xs))) := by
  have e : gNotIn [f a, .lst m (xs.map f)] = if dp 60 (f a) && dpL 60 (xs.map f) then some (.bl (!(xs.map f).any fun y => eqD y (f a))) else none := by
    unfold gNotIn
    split
    · rename_i e; simp at e
    · rename_i e; simp at e; rw [e.1, e.2.2]
    · rename_i e; simp at e
    · rename_i h1 h2 h3; exact (h2 _ _ _ rfl).elim
  rw [e, hd, dpL_of hd]
  have : ((xs.map f).any fun y => eqD y (f a)) = decide (a ∈ xs) := by
    rw [Bool.eq_iff_iff]
    simp [h]
  rw [this]; rfl
/-- sorted: the key's order -/
theorem v_sorted {le : α → α → Bool} (hm : shal m = true) (hl : xs.length ≤ 1000000) (hle : ∀ a b, leD (f a) (f b) = le a b) (hd : ∀ a, dp 60 (f a) = true) (ha : ∀ a b, W.alike (toP (f a)) (toP (f b)) = true) (ht : (∀ a, tup1 (toP (f a)) = true) ∨ ∀ a, noTup (toP (f a)) = true) :
    gSorted [.lst m (xs.map f)] = some (.lst .o ((xs.mergeSort le).map f)) := by
  have e : sortOk (xs.map f) = true := by
    unfold sortOk
    rw [dpL_of hd]
    have h1 : ((xs.map f).all fun a => (xs.map f).all fun b => W.alike (toP a) (toP b)) = true := by
      simp [ha]
    have h2 : (((xs.map f).all fun a => tup1 (toP a)) || ((xs.map f).all fun a => noTup (toP a))) = true := by
      rcases ht with ht | ht
      · have : ((xs.map f).all fun a => tup1 (toP a)) = true := by simp [ht]
        rw [this]; rfl
      · have : ((xs.map f).all fun a => noTup (toP a)) = true := by simp [ht]
        rw [this]; exact Bool.or_true _
    rw [h1, h2, List.length_map]
    simpa using hl
  show (if shal m && sortOk (xs.map f) then some (D.lst .o ((xs.map f).mergeSort leD)) else none) = _
  rw [hm, e, List.map_mergeSort (r := le) (s := leD) (f := f) fun a _ b _ => (hle a b).symm]; rfl
end
theorem eqD_i (a b : Int) : eqD (.int a) (.int b) = decide (a = b) := by
  unfold eqD toP
  rw [Bool.eq_iff_iff]
  simp [PyData.eqv]
theorem eqD_p (a b : Int × Int) : eqD (.tup [.int a.1, .int a.2]) (.tup [.int b.1, .int b.2]) = decide (a = b) := by
  unfold eqD
  rw [Bool.eq_iff_iff]
  simp [toP, toPL, PyData.eqv, PyData.eqvAll, Prod.ext_iff]
theorem leD_i (a b : Int) : leD (.int a) (.int b) = decide (a ≤ b) := by
  unfold leD W.dataLe W.sortLe
  show (!PyProof.Rows.lexLt PyProof.Rows.itemOrd [.inl b] [.inl a]) = _
  rw [Bool.eq_iff_iff]
  simp [PyProof.Rows.lexLt, PyProof.Rows.itemLt]
theorem leD_p (a b : Int × Int) : leD (.tup [.int a.1, .int a.2]) (.tup [.int b.1, .int b.2]) = decide (a.1 < b.1 ∨ (a.1 = b.1 ∧ a.2 ≤ b.2)) := by
  unfold leD W.dataLe W.sortLe
  show (!PyProof.Rows.lexLt PyProof.Rows.itemOrd [.inl 1, .inl b.1, .inl 1, .inl b.2, .inl 0] [.inl 1, .inl a.1, .inl 1, .inl a.2, .inl 0]) = _
  rw [Bool.eq_iff_iff]
  simp [PyProof.Rows.lexLt, PyProof.Rows.itemLt]
  omega
theorem ix_last {xs : List D} {x : D} : L2.ixN (xs ++ [x]).length (-1) = some xs.length := by
  rw [List.length_append]; exact ixN_last
theorem set_last {xs : List D} {x y : D} : (xs ++ [x]).set xs.length y = xs ++ [y] := by simp
theorem emp_last {xs : List D} {x : D} : (xs ++ [x]).isEmpty = false := by cases xs <;> rfl
/-- a comprehension that changes nothing, over a list of a kind -/
theorem has_cmp {α : Type} {f : α → D} {tg : D → DS → Option DS} {t : DS → Option EB} {fe : DS → Option ER} {vs : List Nat} {δ : DS} (p : α → Bool) (h : α → D) {K : List D × DS → Prop} (xs : List α) {acc : List D} (hl : acc.length + xs.length ≤ 1000000)
    (hh : ∀ a ∈ xs, has (tg (f a) δ) fun δ1 => GE t δ1 fun r δ2 => r = .ok (p a) ∧ if p a = true then (GE fe δ2 fun r δ3 => r = .ok (h a) ∧ wipeD vs δ3 = δ) else wipeD vs δ2 = δ)
    (hK : K (acc ++ (xs.filter p).map (fun a => cap (h a)), δ)) : has (evCmp tg t fe vs (xs.map f) acc δ) K := by
  have e : evCmp tg t fe vs (xs.map f) acc δ = some (acc ++ (xs.filter p).map (fun a => cap (h a)), δ) := by
    clear hK
    induction xs generalizing acc with
    | nil => simp [evCmp]
    | cons a r ih =>
      obtain ⟨δ1, e1, b, δ2, e2, rfl, h2⟩ := hh a List.mem_cons_self
      have hr := fun acc' (hl' : acc'.length + r.length ≤ 1000000) => ih (acc := acc') hl' fun d hd => hh d (List.mem_cons_of_mem _ hd)
      simp only [List.length_cons] at hl
      rw [List.map_cons, evCmp, e1]
      simp only [e2]
      by_cases hp : p a = true
      · rw [if_pos hp] at h2
        obtain ⟨y, δ3, e3, rfl, e4⟩ := h2
        rw [if_pos hp, e3]
        simp only
        rw [if_pos (by omega), e4, hr _ (by simp; omega), List.filter_cons_of_pos hp]
        simp
      · rw [if_neg hp] at h2
        rw [if_neg hp, h2, hr _ (by omega), List.filter_cons_of_neg hp]
  rw [e, has_some]; exact hK
theorem has_cmpF {α β : Type} {f : α → D} {tg : D → DS → Option DS} {t : DS → Option EB} {fe : DS → Option ER} {vs : List Nat} {δ : DS} (p : α → Bool) (g : α → β) (fb : β → D) (hc : ∀ b, cap (fb b) = fb b) {K : List D × DS → Prop} (xs : List α) (hl : xs.length ≤ 1000000)
    (hh : ∀ a ∈ xs, has (tg (f a) δ) fun δ1 => GE t δ1 fun r δ2 => r = .ok (p a) ∧ if p a = true then (GE fe δ2 fun r δ3 => r = .ok (fb (g a)) ∧ wipeD vs δ3 = δ) else wipeD vs δ2 = δ)
    (hK : K (((xs.filter p).map g).map fb, δ)) : has (evCmp tg t fe vs (xs.map f) [] δ) K := by
  refine has_cmp p (fun a => fb (g a)) xs (by simpa using hl) hh ?_
  have : (xs.filter p).map (fun a => cap (fb (g a))) = ((xs.filter p).map g).map fb := by simp [hc, Function.comp_def]
  rw [List.nil_append, this]; exact hK
theorem filt_true {α : Type} (xs : List α) : xs.filter (fun _ => true) = xs := List.filter_eq_self.mpr fun _ _ => rfl
theorem has_cmpA {α β : Type} {f : α → D} {tg : D → DS → Option DS} {t : DS → Option EB} {fe : DS → Option ER} {vs : List Nat} {δ : DS} (g : α → β) (fb : β → D) (hc : ∀ b, cap (fb b) = fb b) {K : List D × DS → Prop} (xs : List α) (hl : xs.length ≤ 1000000)
    (hh : ∀ a ∈ xs, has (tg (f a) δ) fun δ1 => GE t δ1 fun r δ2 => r = .ok true ∧ (GE fe δ2 fun r δ3 => r = .ok (fb (g a)) ∧ wipeD vs δ3 = δ))
    (hK : K ((xs.map g).map fb, δ)) : has (evCmp tg t fe vs (xs.map f) [] δ) K := by
  refine has_cmpF (fun _ => true) g fb hc xs hl (fun a ha => ?_) (by rw [filt_true]; exact hK)
  have := hh a ha
  simp only [if_true]
  exact this
/-- one statement, the rest unopened -/
theorem step {f g : DS → Option ES} {δ : DS} {QS : Out → DS → Prop} (δ' : DS) (h1 : ∀ (k : DS → Prop) (Q : Out → DS → Prop), k δ' → Go f δ (kQ k Q)) (h2 : Go g δ' QS) : Go (evSeq f g) δ QS := by
  rw [g_seq]
  exact h1 _ _ h2
theorem stepE {f g : DS → Option ES} {δ : DS} {QS : Out → DS → Prop} (P : DS → Prop) (h1 : ∀ QQ : Out → DS → Prop, (∀ δ', P δ' → QQ .nx δ') → Go f δ QQ) (h2 : ∀ δ', P δ' → Go g δ' QS) : Go (evSeq f g) δ QS := by
  rw [g_seq]
  exact h1 _ fun δ' h => h2 δ' h
end PD
namespace K11
open PySem L2 PD PyProof.Rows
def bd_inside_0 : DS → Option ES := evSeq (evIfS (evTr blD (evChain gLe gLe (evVar 2) (evVar 1) (evVar 3))) (evSeq (evRet (evCst (.bl true)))
  (evNx)) (evNx))
  (evNx)
def ev_inside : DS → Option ES := evSeq (evFor (evSrc (some 0) true (evVar 0)) (tgTup [2, 3]) bd_inside_0)
  (evSeq (evRet (evCst (.bl false)))
  (evNx))
def F_inside : FD := fnOf 4 2 false ev_inside
def bd_next_in_0 : DS → Option ES := evSeq (evIfS (evTr blD (evOp gLe (evDefer 1 (evCons true true (evVar 3) evNil)))) (evSeq (evRet (evOp gMax2 (evDefer 2 (evDefer 1 (evNil)))))
  (evNx)) (evNx))
  (evNx)
def ev_next_in : DS → Option ES := evSeq (evFor (evSrc (some 0) true (evVar 0)) (tgTup [2, 3]) bd_next_in_0)
  (evSeq (evRet (evCst .non))
  (evNx))
def F_next_in : FD := fnOf 4 2 false ev_next_in
def bd_last_in_0 : DS → Option ES := evSeq (evIfS (evTr blD (evOp gLe (evDefer 3 (evCons true true (evVar 1) evNil)))) (evSeq (evAsg 2 (evOp gMin2 (evDefer 4 (evDefer 1 (evNil)))))
  (evNx)) (evNx))
  (evNx)
def ev_last_in : DS → Option ES := evSeq (evAsg 2 (evCst .non))
  (evSeq (evFor (evSrc (some 0) true (evVar 0)) (tgTup [3, 4]) bd_last_in_0)
  (evSeq (evRet (evMv 2))
  (evNx)))
def F_last_in : FD := fnOf 5 2 false ev_last_in
def bd_meet_spans_0 : DS → Option ES := evSeq (evAsg 7 (evOp gMax2 (evDefer 3 (evDefer 5 (evNil)))))
  (evSeq (evAsg 8 (evOp gMin2 (evDefer 4 (evDefer 6 (evNil)))))
  (evSeq (evIfS (evTr blD (evOp gLe (evDefer 7 (evCons true true (evVar 8) evNil)))) (evSeq (evApp 2 (evTup [true, true] (evDefer 7 (evDefer 8 (evNil)))))
  (evNx)) (evNx))
  (evNx)))
def bd_meet_spans_1 : DS → Option ES := evSeq (evFor (evSrc (some 1) true (evVar 1)) (tgTup [5, 6]) bd_meet_spans_0)
  (evNx)
def ev_meet_spans : DS → Option ES := evSeq (evAsg 2 (evLst [] (evNil)))
  (evSeq (evFor (evSrc (some 0) true (evVar 0)) (tgTup [3, 4]) bd_meet_spans_1)
  (evSeq (evRet (evMv 2))
  (evNx)))
def F_meet_spans : FD := fnOf 9 2 false ev_meet_spans
def bd_tidy_0 : DS → Option ES := evSeq (evIfS (evAndT (evTr truD (evVar 1)) (evTr blD (evOp gLe (evDefer 2 (evCons false true (evOp gAdd (evCons false true (evOp gItem (evCons false true (evOp gItem (evDefer 1 (evCons false true (evOp gNeg (evCons false true (evCst (.int 1)) evNil)) evNil))) (evCons false true (evCst (.int 1)) evNil))) (evCons false true (evCst (.int 1)) evNil))) evNil))))) (evSeq (evSet 1 (evTup [false, false] (evCons false true (evOp gItem (evCons false true (evOp gItem (evDefer 1 (evCons false true (evOp gNeg (evCons false true (evCst (.int 1)) evNil)) evNil))) (evCons false true (evCst (.int 0)) evNil))) (evCons false true (evOp gMax2 (evCons false true (evOp gItem (evCons false true (evOp gItem (evDefer 1 (evCons false true (evOp gNeg (evCons false true (evCst (.int 1)) evNil)) evNil))) (evCons false true (evCst (.int 1)) evNil))) (evDefer 3 (evNil)))) (evNil)))) (evOp gNeg (evCons false true (evCst (.int 1)) evNil)))
  (evNx)) (evSeq (evApp 1 (evTup [true, true] (evDefer 2 (evDefer 3 (evNil)))))
  (evNx)))
  (evNx)
def ev_tidy : DS → Option ES := evSeq (evAsg 1 (evLst [] (evNil)))
  (evSeq (evFor (evSrc none false (evOp gSorted (evDefer 0 (evNil)))) (tgTup [2, 3]) bd_tidy_0)
  (evSeq (evRet (evMv 1))
  (evNx)))
def F_tidy : FD := fnOf 4 1 false ev_tidy
def ev_join_spans : DS → Option ES := evSeq (evRet (evCall F_tidy [false] [] (evCons false true (evOp gAdd (evCons false true (evOp gList (evDefer 0 (evNil))) (evCons false true (evOp gList (evDefer 1 (evNil))) evNil))) (evNil))))
  (evNx)
def F_join_spans : FD := fnOf 2 2 false ev_join_spans
def bd_turned_0 : DS → Option ES := evSeq (evIfS (evTr blD (evOp gGt (evDefer 5 (evCons true true (evVar 4) evNil)))) (evSeq (evApp 3 (evTup [true, false] (evDefer 4 (evCons false true (evOp gMin2 (evCons false true (evOp gSub (evDefer 5 (evCons false true (evCst (.int 1)) evNil))) (evDefer 2 (evNil)))) (evNil)))))
  (evNx)) (evNx))
  (evSeq (evAsg 4 (evOp gMax2 (evDefer 4 (evCons false true (evOp gAdd (evDefer 6 (evCons false true (evCst (.int 1)) evNil))) (evNil)))))
  (evNx))
def ct_turned_1 : DS → Option EB := evAndT (evTr blD (evOp gLe (evCons false true (evOp gItem (evDefer 7 (evCons false true (evCst (.int 0)) evNil))) (evCons false true (evOp gItem (evDefer 7 (evCons false true (evCst (.int 1)) evNil))) evNil)))) (evTr blD (evOp gLe (evCons false true (evOp gItem (evDefer 7 (evCons false true (evCst (.int 0)) evNil))) (evCons true true (evVar 2) evNil))))
def ce_turned_2 : DS → Option ER := evFv 7
def ev_turned : DS → Option ES := evSeq (evAsg 3 (evLst [] (evNil)))
  (evSeq (evAsg 4 (evFv 1))
  (evSeq (evFor (evSrc (some 0) true (evVar 0)) (tgTup [5, 6]) bd_turned_0)
  (evSeq (evIfS (evTr blD (evOp gLe (evDefer 4 (evCons true true (evVar 2) evNil)))) (evSeq (evApp 3 (evTup [true, true] (evDefer 4 (evDefer 2 (evNil)))))
  (evNx)) (evNx))
  (evSeq (evRet (evLc (evSrc (some 3) true (evVar 3)) (tgName 7) ct_turned_1 ce_turned_2 [7]))
  (evNx)))))
def F_turned : FD := fnOf 8 3 false ev_turned
def ct_shifted_0 : DS → Option EB := evYes
def ce_shifted_1 : DS → Option ER := evTup [false, false] (evCons false true (evOp gAdd (evDefer 5 (evCons true true (evVar 1) evNil))) (evCons false true (evOp gAdd (evDefer 6 (evCons true true (evVar 1) evNil))) (evNil)))
def ev_shifted : DS → Option ES := evSeq (evAsg 4 (evLc (evSrc (some 0) true (evVar 0)) (tgTup [5, 6]) ct_shifted_0 ce_shifted_1 [5, 6]))
  (evSeq (evRet (evCall F_meet_spans [true, false] [] (evDefer 4 (evCons false true (evLst [false] (evCons false true (evTup [true, true] (evDefer 2 (evDefer 3 (evNil)))) (evNil))) (evNil)))))
  (evNx))
def F_shifted : FD := fnOf 7 4 false ev_shifted
def ct_shrunk_0 : DS → Option EB := evTr blD (evOp gLe (evDefer 2 (evCons false true (evOp gSub (evDefer 3 (evCons true true (evVar 1) evNil))) evNil)))
def ce_shrunk_1 : DS → Option ER := evTup [true, false] (evDefer 2 (evCons false true (evOp gSub (evDefer 3 (evCons true true (evVar 1) evNil))) (evNil)))
def ev_shrunk : DS → Option ES := evSeq (evRet (evLc (evSrc (some 0) true (evVar 0)) (tgTup [2, 3]) ct_shrunk_0 ce_shrunk_1 [2, 3]))
  (evNx)
def F_shrunk : FD := fnOf 4 2 false ev_shrunk
def ct_length_0 : DS → Option EB := evYes
def ce_length_1 : DS → Option ER := evOp gAdd (evCons false true (evOp gSub (evDefer 2 (evCons true true (evVar 1) evNil))) (evCons false true (evCst (.int 1)) evNil))
def ev_length : DS → Option ES := evSeq (evRet (evOp gSum (evCons false true (evLc (evSrc (some 0) true (evVar 0)) (tgTup [1, 2]) ct_length_0 ce_length_1 [1, 2]) (evNil))))
  (evNx)
def F_length : FD := fnOf 3 1 false ev_length
def bd_nth_0 : DS → Option ES := evSeq (evIfS (evTr blD (evOp gLe (evDefer 2 (evCons false true (evOp gSub (evDefer 4 (evCons true true (evVar 3) evNil))) evNil)))) (evSeq (evRet (evOp gAdd (evDefer 3 (evCons true true (evVar 2) evNil))))
  (evNx)) (evNx))
  (evSeq (evAsg 2 (evOp gSub (evDefer 2 (evCons false true (evOp gAdd (evCons false true (evOp gSub (evDefer 4 (evCons true true (evVar 3) evNil))) (evCons false true (evCst (.int 1)) evNil))) evNil))))
  (evNx))
def ev_nth : DS → Option ES := evSeq (evAsg 2 (evFv 1))
  (evSeq (evFor (evSrc (some 0) true (evVar 0)) (tgTup [3, 4]) bd_nth_0)
  (evSeq (evRet (evCst .non))
  (evNx)))
def F_nth : FD := fnOf 5 2 false ev_nth
def ev_rank : DS → Option ES := evSeq (evRet (evIf (evTr blD (evOp gGt (evDefer 1 (evCons false true (evCst (.int 0)) evNil)))) (evCall F_length [false] [] (evCons false true (evCall F_meet_spans [true, false] [] (evDefer 0 (evCons false true (evLst [false] (evCons false true (evTup [false, false] (evCons false true (evCst (.int 0)) (evCons false true (evOp gSub (evDefer 1 (evCons false true (evCst (.int 1)) evNil))) (evNil)))) (evNil))) (evNil)))) (evNil))) (evCst (.int 0))))
  (evNx)
def F_rank : FD := fnOf 2 2 false ev_rank
def ct_spans_of_0 : DS → Option EB := evYes
def ce_spans_of_1 : DS → Option ER := evTup [true, true] (evDefer 1 (evDefer 1 (evNil)))
def ev_spans_of : DS → Option ES := evSeq (evRet (evCall F_tidy [false] [] (evCons false true (evLc (evSrc (some 0) true (evVar 0)) (tgName 1) ct_spans_of_0 ce_spans_of_1 [1]) (evNil))))
  (evNx)
def F_spans_of : FD := fnOf 2 1 false ev_spans_of
def ev_within : DS → Option ES := evSeq (evRet (evOp gEq (evCons false true (evCall F_meet_spans [true, true] [] (evDefer 0 (evDefer 1 (evNil)))) (evCons false true (evOp gList (evDefer 0 (evNil))) evNil))))
  (evNx)
def F_within : FD := fnOf 2 2 false ev_within
def ev__law_cell : DS → Option ES := evSeq (evIfS (evTr blD (evOp gLt (evDefer 1 (evCons false true (evOp gLen (evDefer 0 (evNil))) evNil)))) (evSeq (evRet (evOp gAbs (evCons false true (evOp gIntOf (evCons false true (evOp gItem (evDefer 0 (evCons true true (evVar 1) evNil))) (evNil))) (evNil))))
  (evNx)) (evNx))
  (evSeq (evRet (evOp gAdd (evCons false true (evOp gMul (evCons false true (evCst (.int 37)) (evCons true true (evVar 1) evNil))) (evCons false true (evCst (.int 11)) evNil))))
  (evNx))
def F__law_cell : FD := fnOf 2 2 false ev__law_cell
def ev__law_take : DS → Option ES := evSeq (evIfS (evTr blD (evOp gGt (evCons false true (evOp gItem (evDefer 0 (evCons false true (evCst (.int 2)) evNil))) (evCons false true (evCst (.int 0)) evNil)))) (evSeq (evAsg 3 (evOp gMod (evCons false true (evOp gIntOf (evCons false true (evOp gItem (evDefer 0 (evCons false true (evCst (.int 2)) evNil))) (evNil))) (evCons true true (evVar 1) evNil))))
  (evSeq (evSet 0 (evOp gDiv (evCons false true (evOp gIntOf (evCons false true (evOp gItem (evDefer 0 (evCons false true (evCst (.int 2)) evNil))) (evNil))) (evCons true true (evVar 1) evNil))) (evCst (.int 2)))
  (evSeq (evRet (evMv 3))
  (evNx)))) (evNx))
  (evSeq (evAsg 2 (evCall F__law_cell [false, false] [] (evCons false true (evOp gItem (evDefer 0 (evCons false true (evCst (.int 0)) evNil))) (evCons false true (evOp gItem (evDefer 0 (evCons false true (evCst (.int 1)) evNil))) (evNil)))))
  (evSeq (evSet 0 (evOp gAdd (evCons false true (evOp gItem (evDefer 0 (evCons false true (evCst (.int 1)) evNil))) (evCons false true (evCst (.int 1)) evNil))) (evCst (.int 1)))
  (evSeq (evIfS (evTr blD (evOp gGe (evDefer 2 (evCons false true (evOp gPow (evCons false true (evCst (.int 10)) (evCons false true (evCst (.int 9)) evNil))) evNil)))) (evSeq (evSet 0 (evOp gDiv (evCons false true (evOp gIntOf (evDefer 2 (evNil))) (evCons true true (evVar 1) evNil))) (evCst (.int 2)))
  (evNx)) (evNx))
  (evSeq (evRet (evOp gMod (evCons false true (evOp gIntOf (evDefer 2 (evNil))) (evCons true true (evVar 1) evNil))))
  (evNx)))))
def F__law_take : FD := fnOf 4 2 true ev__law_take
def bd__law_spans_0 : DS → Option ES := evSeq (evAsg 6 (evOp gAdd (evDefer 4 (evCons false true (evCallM F__law_take 0 [false] [] (evCons false true (evOp gAdd (evCons false true (evOp gDiv (evDefer 1 (evCons false true (evCst (.int 3)) evNil))) (evCons false true (evCst (.int 1)) evNil))) (evNil))) evNil))))
  (evSeq (evAsg 7 (evOp gAdd (evDefer 6 (evCons false true (evCallM F__law_take 0 [false] [] (evCons false true (evOp gAdd (evCons false true (evOp gDiv (evDefer 1 (evCons false true (evCst (.int 3)) evNil))) (evCons false true (evCst (.int 1)) evNil))) (evNil))) evNil))))
  (evSeq (evIfS (evTr blD (evOp gLe (evDefer 6 (evCons true true (evVar 1) evNil)))) (evSeq (evApp 3 (evTup [true, false] (evDefer 6 (evCons false true (evOp gMin2 (evDefer 7 (evDefer 1 (evNil)))) (evNil)))))
  (evNx)) (evNx))
  (evSeq (evAsg 4 (evOp gAdd (evDefer 7 (evCons false true (evCst (.int 2)) evNil))))
  (evNx))))
def ev__law_spans : DS → Option ES := evSeq (evAsg 3 (evLst [] (evNil)))
  (evSeq (evAsg 4 (evCst (.int 0)))
  (evSeq (evFor (evRng rng1Of (evCons false true (evCallM F__law_take 0 [false] [] (evCons false true (evOp gAdd (evDefer 2 (evCons false true (evCst (.int 1)) evNil))) (evNil))) (evNil))) (tgName 5) bd__law_spans_0)
  (evSeq (evRet (evMv 3))
  (evNx))))
def F__law_spans : FD := fnOf 8 3 true ev__law_spans
def ct__law_set_0 : DS → Option EB := evTr blD (evChain gLe gLe (evOp gItem (evDefer 2 (evCons false true (evCst (.int 0)) evNil))) (evVar 1) (evOp gItem (evDefer 2 (evCons false true (evCst (.int 1)) evNil))))
def ce__law_set_1 : DS → Option ER := evFv 2
def ct__law_set_2 : DS → Option EB := evTr blD (evOp gGt (evCons false true (evOp gLen (evCons false true (evLc (evSrc (some 0) true (evVar 0)) (tgName 2) ct__law_set_0 ce__law_set_1 [2]) (evNil))) (evCons false true (evCst (.int 0)) evNil)))
def ce__law_set_3 : DS → Option ER := evFv 1
def ev__law_set : DS → Option ES := evSeq (evRet (evLc (evRng rng2Of (evCons false true (evOp gSub (evCons false true (evCst (.int 0)) (evCons false true (evCst (.int 60)) evNil))) (evCons false true (evCst (.int 130)) (evNil)))) (tgName 1) ct__law_set_2 ce__law_set_3 [1]))
  (evNx)
def F__law_set : FD := fnOf 3 1 false ev__law_set
def bd__law_of_0 : DS → Option ES := evSeq (evIfS (evAndT (evTr blD (evOp gNe (evDefer 1 (evCons false true (evLst [] (evNil)) evNil)))) (evTr blD (evOp gLe (evDefer 2 (evCons false true (evOp gAdd (evCons false true (evOp gItem (evCons false true (evOp gItem (evDefer 1 (evCons false true (evOp gNeg (evCons false true (evCst (.int 1)) evNil)) evNil))) (evCons false true (evCst (.int 1)) evNil))) (evCons false true (evCst (.int 1)) evNil))) evNil))))) (evSeq (evSet 1 (evTup [false, true] (evCons false true (evOp gItem (evCons false true (evOp gItem (evDefer 1 (evCons false true (evOp gNeg (evCons false true (evCst (.int 1)) evNil)) evNil))) (evCons false true (evCst (.int 0)) evNil))) (evDefer 2 (evNil)))) (evOp gNeg (evCons false true (evCst (.int 1)) evNil)))
  (evNx)) (evSeq (evApp 1 (evTup [true, true] (evDefer 2 (evDefer 2 (evNil)))))
  (evNx)))
  (evNx)
def ev__law_of : DS → Option ES := evSeq (evAsg 1 (evLst [] (evNil)))
  (evSeq (evFor (evSrc none false (evOp gSorted (evDefer 0 (evNil)))) (tgName 2) bd__law_of_0)
  (evSeq (evRet (evMv 1))
  (evNx)))
def F__law_of : FD := fnOf 3 1 false ev__law_of
def ct__law_one_right_0 : DS → Option EB := evTr blD (evOp gGe (evDefer 5 (evCons true true (evVar 2) evNil)))
def ce__law_one_right_1 : DS → Option ER := evFv 5
def ct__law_one_right_2 : DS → Option EB := evTr blD (evOp gLe (evDefer 5 (evCons true true (evVar 2) evNil)))
def ce__law_one_right_3 : DS → Option ER := evFv 5
def ct__law_one_right_4 : DS → Option EB := evTr blD (evOp gLt (evDefer 5 (evCons true true (evVar 2) evNil)))
def ce__law_one_right_5 : DS → Option ER := evFv 5
def ev__law_one_right : DS → Option ES := evSeq (evAsg 3 (evLc (evSrc (some 1) true (evVar 1)) (tgName 5) ct__law_one_right_0 ce__law_one_right_1 [5]))
  (evSeq (evAsg 4 (evLc (evSrc (some 1) true (evVar 1)) (tgName 5) ct__law_one_right_2 ce__law_one_right_3 [5]))
  (evSeq (evIfS (evOrT (evTr blD (evOp gNe (evCons false true (evCall F_next_in [true, true] [] (evDefer 0 (evDefer 2 (evNil)))) (evCons false true (evIf (evTr blD (evOp gNe (evDefer 3 (evCons false true (evLst [] (evNil)) evNil)))) (evOp gItem (evDefer 3 (evCons false true (evCst (.int 0)) evNil))) (evCst .non)) evNil)))) (evTr blD (evOp gNe (evCons false true (evCall F_last_in [true, true] [] (evDefer 0 (evDefer 2 (evNil)))) (evCons false true (evIf (evTr blD (evOp gNe (evDefer 4 (evCons false true (evLst [] (evNil)) evNil)))) (evOp gItem (evDefer 4 (evCons false true (evOp gNeg (evCons false true (evCst (.int 1)) evNil)) evNil))) (evCst .non)) evNil))))) (evSeq (evRet (evCst (.bl false)))
  (evNx)) (evNx))
  (evSeq (evIfS (evOrT (evTr blD (evOp gNe (evCons false true (evOp gRepr (evCons false true (evCall F_inside [true, true] [] (evDefer 0 (evDefer 2 (evNil)))) (evNil))) (evCons false true (evOp gRepr (evCons false true (evOp gIn (evDefer 2 (evCons true true (evVar 1) evNil))) (evNil))) evNil)))) (evTr blD (evOp gNe (evCons false true (evCall F_length [true] [] (evDefer 0 (evNil))) (evCons false true (evOp gLen (evDefer 1 (evNil))) evNil))))) (evSeq (evRet (evCst (.bl false)))
  (evNx)) (evNx))
  (evSeq (evIfS (evTr blD (evOp gNe (evCons false false (evCall F_rank [true, true] [] (evDefer 0 (evDefer 2 (evNil)))) (evCons false true (evOp gLen (evCons false true (evLc (evSrc (some 1) true (evVar 1)) (tgName 5) ct__law_one_right_4 ce__law_one_right_5 [5]) (evNil))) evNil)))) (evSeq (evRet (evCst (.bl false)))
  (evNx)) (evNx))
  (evSeq (evRet (evOp gEq (evCons false true (evCall F_nth [true, true] [] (evDefer 0 (evDefer 2 (evNil)))) (evCons false true (evIf (evTr blD (evOp gLt (evDefer 2 (evCons false true (evOp gLen (evDefer 1 (evNil))) evNil)))) (evOp gItem (evDefer 1 (evCons true true (evVar 2) evNil))) (evCst .non)) evNil))))
  (evNx))))))
def F__law_one_right : FD := fnOf 6 3 false ev__law_one_right
def ct_law_0 : DS → Option EB := evTr blD (evOp gEq (evCons false true (evCallM F__law_take 1 [false] [] (evCons false true (evCst (.int 2)) (evNil))) (evCons false true (evCst (.int 0)) evNil)))
def ce_law_1 : DS → Option ER := evFv 17
def bd_law_2 : DS → Option ES := evSeq (evIfS (evNotT (evTr truD (evCall F__law_one_right [true, true, false] [] (evDefer 2 (evDefer 4 (evCons false true (evCallM F__law_take 1 [false] [] (evCons false true (evCst (.int 45)) (evNil))) (evNil))))))) (evSeq (evRet (evCst (.bl false)))
  (evNx)) (evNx))
  (evNx)
def ct_law_3 : DS → Option EB := evTr blD (evOp gIn (evDefer 16 (evCons true true (evVar 5) evNil)))
def ce_law_4 : DS → Option ER := evFv 16
def ct_law_5 : DS → Option EB := evTr blD (evOp gNotIn (evDefer 16 (evCons true true (evVar 5) evNil)))
def ce_law_6 : DS → Option ER := evFv 16
def ct_law_7 : DS → Option EB := evTr blD (evOp gNotIn (evDefer 16 (evCons true true (evVar 4) evNil)))
def ce_law_8 : DS → Option ER := evFv 16
def ct_law_9 : DS → Option EB := evTr blD (evChain gLe gLe (evVar 9) (evOp gAdd (evDefer 16 (evCons true true (evVar 11) evNil))) (evVar 10))
def ce_law_10 : DS → Option ER := evOp gAdd (evDefer 16 (evCons true true (evVar 11) evNil))
def ct_law_11 : DS → Option EB := evAndT (evTr blD (evOp gLe (evCons false true (evOp gItem (evDefer 17 (evCons false true (evCst (.int 0)) evNil))) (evCons true true (evVar 16) evNil)))) (evTr blD (evOp gLe (evCons false true (evOp gAdd (evDefer 16 (evCons true true (evVar 12) evNil))) (evCons false true (evOp gItem (evDefer 17 (evCons false true (evCst (.int 1)) evNil))) evNil))))
def ce_law_12 : DS → Option ER := evFv 17
def ct_law_13 : DS → Option EB := evTr blD (evOp gGt (evCons false true (evOp gLen (evCons false true (evLc (evSrc (some 2) true (evVar 2)) (tgName 17) ct_law_11 ce_law_12 [17]) (evNil))) (evCons false true (evCst (.int 0)) evNil)))
def ce_law_14 : DS → Option ER := evFv 16
def ct_law_15 : DS → Option EB := evYes
def ce_law_16 : DS → Option ER := evCallM F__law_take 1 [false] [] (evCons false true (evCst (.int 40)) (evNil))
def ct_law_17 : DS → Option EB := evYes
def ce_law_18 : DS → Option ER := evTup [true, false] (evDefer 16 (evCons false true (evOp gAdd (evDefer 16 (evCons false true (evCallM F__law_take 1 [false] [] (evCons false true (evCst (.int 6)) (evNil))) evNil))) (evNil)))
def ev_law : DS → Option ES := evSeq (evAsg 1 (evLst [true, false, false] (evDefer 0 (evCons false true (evCst (.int 0)) (evCons false true (evCst (.int 0)) (evNil))))))
  (evSeq (evAsg 2 (evCallM F__law_spans 1 [false, false] [] (evCons false true (evCst (.int 40)) (evCons false true (evCst (.int 4)) (evNil)))))
  (evSeq (evAsg 3 (evCallM F__law_spans 1 [false, false] [] (evCons false true (evCst (.int 40)) (evCons false true (evCst (.int 4)) (evNil)))))
  (evSeq (evIfS (evTr blD (evOp gEq (evCons false true (evCallM F__law_take 1 [false] [] (evCons false true (evCst (.int 3)) (evNil))) (evCons false true (evCst (.int 0)) evNil)))) (evSeq (evAsg 3 (evLc (evSrc (some 2) true (evVar 2)) (tgName 17) ct_law_0 ce_law_1 [17]))
  (evNx)) (evNx))
  (evSeq (evAsg 4 (evCall F__law_set [true] [] (evDefer 2 (evNil))))
  (evSeq (evAsg 5 (evCall F__law_set [true] [] (evDefer 3 (evNil))))
  (evSeq (evFor (evRng rng1Of (evCons false true (evCst (.int 3)) (evNil))) (tgName 6) bd_law_2)
  (evSeq (evAsg 7 (evLc (evSrc (some 4) true (evVar 4)) (tgName 16) ct_law_3 ce_law_4 [16]))
  (evSeq (evAsg 8 (evCall F_meet_spans [false, true] [] (evCons false true (evOp gList (evDefer 2 (evNil))) (evDefer 3 (evNil)))))
  (evSeq (evIfS (evOrT (evTr blD (evOp gNe (evCons false true (evCall F__law_set [true] [] (evDefer 8 (evNil))) (evCons true true (evVar 7) evNil)))) (evTr blD (evOp gNe (evDefer 8 (evCons false true (evOp gSorted (evDefer 8 (evNil))) evNil))))) (evSeq (evRet (evCst (.bl false)))
  (evNx)) (evNx))
  (evSeq (evIfS (evOrT (evTr blD (evOp gNe (evCons false true (evCall F_join_spans [true, true] [] (evDefer 2 (evDefer 3 (evNil)))) (evCons false true (evCall F__law_of [false] [] (evCons false true (evOp gAdd (evDefer 4 (evCons true true (evVar 5) evNil))) (evNil))) evNil)))) (evTr blD (evOp gNe (evCons false false (evOp gRepr (evCons false true (evCall F_within [true, true] [] (evDefer 2 (evDefer 3 (evNil)))) (evNil))) (evCons false true (evOp gRepr (evCons false true (evOp gEq (evCons false true (evOp gLen (evCons false true (evLc (evSrc (some 4) true (evVar 4)) (tgName 16) ct_law_5 ce_law_6 [16]) (evNil))) (evCons false true (evCst (.int 0)) evNil))) (evNil))) evNil))))) (evSeq (evRet (evCst (.bl false)))
  (evNx)) (evNx))
  (evSeq (evAsg 9 (evCallM F__law_take 1 [false] [] (evCons false true (evCst (.int 30)) (evNil))))
  (evSeq (evAsg 10 (evOp gAdd (evDefer 9 (evCons false true (evCallM F__law_take 1 [false] [] (evCons false true (evCst (.int 30)) (evNil))) evNil))))
  (evSeq (evIfS (evTr blD (evOp gNe (evCons false false (evCall F_turned [true, true, true] [] (evDefer 2 (evDefer 9 (evDefer 10 (evNil))))) (evCons false true (evCall F__law_of [false] [] (evCons false true (evLc (evRng rng2Of (evDefer 9 (evCons false true (evOp gAdd (evDefer 10 (evCons false true (evCst (.int 1)) evNil))) (evNil)))) (tgName 16) ct_law_7 ce_law_8 [16]) (evNil))) evNil)))) (evSeq (evRet (evCst (.bl false)))
  (evNx)) (evNx))
  (evSeq (evAsg 11 (evOp gSub (evCons false true (evCallM F__law_take 1 [false] [] (evCons false true (evCst (.int 50)) (evNil))) (evCons false true (evCst (.int 25)) evNil))))
  (evSeq (evIfS (evTr blD (evOp gNe (evCons false false (evCall F__law_of [false] [] (evCons false true (evCall F__law_set [false] [] (evCons false true (evCall F_shifted [true, true, true, true] [] (evDefer 2 (evDefer 11 (evDefer 9 (evDefer 10 (evNil)))))) (evNil))) (evNil))) (evCons false true (evCall F__law_of [false] [] (evCons false true (evLc (evSrc (some 4) true (evVar 4)) (tgName 16) ct_law_9 ce_law_10 [16]) (evNil))) evNil)))) (evSeq (evRet (evCst (.bl false)))
  (evNx)) (evNx))
  (evSeq (evAsg 12 (evCallM F__law_take 1 [false] [] (evCons false true (evCst (.int 9)) (evNil))))
  (evSeq (evAsg 13 (evLc (evSrc (some 4) true (evVar 4)) (tgName 16) ct_law_13 ce_law_14 [16]))
  (evSeq (evIfS (evTr blD (evOp gNe (evCons false true (evCall F_shrunk [true, true] [] (evDefer 2 (evDefer 12 (evNil)))) (evCons false true (evCall F__law_of [true] [] (evDefer 13 (evNil))) evNil)))) (evSeq (evRet (evCst (.bl false)))
  (evNx)) (evNx))
  (evSeq (evAsg 14 (evLc (evRng rng1Of (evCons false true (evCallM F__law_take 1 [false] [] (evCons false true (evCst (.int 9)) (evNil))) (evNil))) (tgName 6) ct_law_15 ce_law_16 [6]))
  (evSeq (evAsg 15 (evLc (evSrc (some 14) true (evVar 14)) (tgName 16) ct_law_17 ce_law_18 [16]))
  (evSeq (evRet (evAndV (evOp gEq (evCons false true (evCall F_spans_of [false] [] (evCons false true (evOp gList (evDefer 14 (evNil))) (evNil))) (evCons false true (evCall F__law_of [true] [] (evDefer 14 (evNil))) evNil))) (evAndV (evOp gEq (evCons false true (evCall F_tidy [false] [] (evCons false true (evOp gList (evDefer 15 (evNil))) (evNil))) (evCons false true (evCall F__law_of [false] [] (evCons false true (evCall F__law_set [true] [] (evDefer 15 (evNil))) (evNil))) evNil))) (evOpq false (evOp gEq (evCons false true (evCall F__law_of [true] [] (evDefer 4 (evNil))) (evCons true true (evVar 2) evNil)))))))
  (evNx))))))))))))))))))))))
def F_law : FD := fnOf 18 1 false ev_law
end K11
namespace K11
open PySem L2 PD PyProof.Rows
def top (i : Nat) : Stmt := PySem.Challenge.pw_overbar_k11_spans_are_sets_of_minutes.main.body.getD i (.Pass ⟨0, 0, 0, 0⟩)
abbrev s_inside : Stmt := top 1
def N_inside : List Str := [Str.ofString "spans", Str.ofString "minute", Str.ofString "begin", Str.ofString "end"]
theorem nd_inside : N_inside.Nodup := by decide +kernel
theorem b_inside {E : En} {G : GC} (hG : G.K = E.K) : JSs E G (fnPl N_inside 0 (defScope s_inside)) 4 [] (defBody s_inside) ev_inside :=
  ss_cons (s_for (pn' := [0]) (j_srcV hG (by decide +kernel)) rt_src (fun i h => by cases h; decide) (by decide) (j_tgt hG (j_ns (by decide +kernel) (by exact nd_inside) (by decide) (by decide) (j_ns (by decide +kernel) (by exact nd_inside) (by decide) (by decide) (j_ns0)))) (ss_cons (s_if (j_tchain hG ok_le ok_le (j_var (by decide +kernel)) (j_var (by decide +kernel)) (j_var (by decide +kernel))) (ss_cons (s_ret (j_bl))
  (ss_nil)) (ss_nil))
  (ss_nil)))
  (ss_cons (s_ret (j_bl))
  (ss_nil))
theorem sc_inside : FnScope N_inside [Str.ofString "spans", Str.ofString "minute"] (defScope s_inside) := ⟨rfl, rfl, rfl, by decide +kernel, rfl, by decide +kernel, by decide +kernel⟩
abbrev s_next_in : Stmt := top 2
def N_next_in : List Str := [Str.ofString "spans", Str.ofString "minute", Str.ofString "begin", Str.ofString "end"]
theorem nd_next_in : N_next_in.Nodup := by decide +kernel
theorem b_next_in {E : En} {G : GC} (hG : G.K = E.K) (m_max : E.mg (Str.ofString "max") = none) : JSs E G (fnPl N_next_in 0 (defScope s_next_in)) 4 [] (defBody s_next_in) ev_next_in :=
  ss_cons (s_for (pn' := [0]) (j_srcV hG (by decide +kernel)) rt_src (fun i h => by cases h; decide) (by decide) (j_tgt hG (j_ns (by decide +kernel) (by exact nd_next_in) (by decide) (by decide) (j_ns (by decide +kernel) (by exact nd_next_in) (by decide) (by decide) (j_ns0)))) (ss_cons (s_if (j_tcmp hG ok_le (.dc (by decide +kernel) (j_var (by decide +kernel)) (by decide))) (ss_cons (s_ret (j_bi hG ok_max2 (by decide +kernel) m_max (by decide +kernel) (j_dfr (by decide +kernel) (j_dfr (by decide +kernel) (j_nil)))))
  (ss_nil)) (ss_nil))
  (ss_nil)))
  (ss_cons (s_ret (j_non))
  (ss_nil))
theorem sc_next_in : FnScope N_next_in [Str.ofString "spans", Str.ofString "minute"] (defScope s_next_in) := ⟨rfl, rfl, rfl, by decide +kernel, rfl, by decide +kernel, by decide +kernel⟩
abbrev s_last_in : Stmt := top 3
def N_last_in : List Str := [Str.ofString "spans", Str.ofString "minute", Str.ofString "found", Str.ofString "begin", Str.ofString "end"]
theorem nd_last_in : N_last_in.Nodup := by decide +kernel
theorem b_last_in {E : En} {G : GC} (hG : G.K = E.K) (m_min : E.mg (Str.ofString "min") = none) : JSs E G (fnPl N_last_in 0 (defScope s_last_in)) 5 [] (defBody s_last_in) ev_last_in :=
  ss_cons (s_asg (by decide +kernel) (by exact nd_last_in) (by decide) (by decide) (j_non))
  (ss_cons (s_for (pn' := [0]) (j_srcV hG (by decide +kernel)) rt_src (fun i h => by cases h; decide) (by decide) (j_tgt hG (j_ns (by decide +kernel) (by exact nd_last_in) (by decide) (by decide) (j_ns (by decide +kernel) (by exact nd_last_in) (by decide) (by decide) (j_ns0)))) (ss_cons (s_if (j_tcmp hG ok_le (.dc (by decide +kernel) (j_var (by decide +kernel)) (by decide))) (ss_cons (s_asg (by decide +kernel) (by exact nd_last_in) (by decide) (by decide) (j_bi hG ok_min2 (by decide +kernel) m_min (by decide +kernel) (j_dfr (by decide +kernel) (j_dfr (by decide +kernel) (j_nil)))))
  (ss_nil)) (ss_nil))
  (ss_nil)))
  (ss_cons (s_ret (j_mv (by decide +kernel)))
  (ss_nil)))
theorem sc_last_in : FnScope N_last_in [Str.ofString "spans", Str.ofString "minute"] (defScope s_last_in) := ⟨rfl, rfl, rfl, by decide +kernel, rfl, by decide +kernel, by decide +kernel⟩
abbrev s_meet_spans : Stmt := top 4
def N_meet_spans : List Str := [Str.ofString "one", Str.ofString "other", Str.ofString "found", Str.ofString "begin", Str.ofString "end", Str.ofString "start", Str.ofString "stop", Str.ofString "low", Str.ofString "high"]
theorem nd_meet_spans : N_meet_spans.Nodup := by decide +kernel
theorem b_meet_spans {E : En} {G : GC} (hG : G.K = E.K) (m_max : E.mg (Str.ofString "max") = none) (m_min : E.mg (Str.ofString "min") = none) : JSs E G (fnPl N_meet_spans 0 (defScope s_meet_spans)) 9 [] (defBody s_meet_spans) ev_meet_spans :=
  ss_cons (s_asg (by decide +kernel) (by exact nd_meet_spans) (by decide) (by decide) (j_lst (j_nil)))
  (ss_cons (s_for (pn' := [0]) (j_srcV hG (by decide +kernel)) rt_src (fun i h => by cases h; decide) (by decide) (j_tgt hG (j_ns (by decide +kernel) (by exact nd_meet_spans) (by decide) (by decide) (j_ns (by decide +kernel) (by exact nd_meet_spans) (by decide) (by decide) (j_ns0)))) (ss_cons (s_for (pn' := [0, 1]) (j_srcV hG (by decide +kernel)) rt_src (fun i h => by cases h; decide) (by decide) (j_tgt hG (j_ns (by decide +kernel) (by exact nd_meet_spans) (by decide) (by decide) (j_ns (by decide +kernel) (by exact nd_meet_spans) (by decide) (by decide) (j_ns0)))) (ss_cons (s_asg (by decide +kernel) (by exact nd_meet_spans) (by decide) (by decide) (j_bi hG ok_max2 (by decide +kernel) m_max (by decide +kernel) (j_dfr (by decide +kernel) (j_dfr (by decide +kernel) (j_nil)))))
  (ss_cons (s_asg (by decide +kernel) (by exact nd_meet_spans) (by decide) (by decide) (j_bi hG ok_min2 (by decide +kernel) m_min (by decide +kernel) (j_dfr (by decide +kernel) (j_dfr (by decide +kernel) (j_nil)))))
  (ss_cons (s_if (j_tcmp hG ok_le (.dc (by decide +kernel) (j_var (by decide +kernel)) (by decide))) (ss_cons (s_app hG (by decide +kernel) (j_tup (j_dfr (by decide +kernel) (j_dfr (by decide +kernel) (j_nil)))))
  (ss_nil)) (ss_nil))
  (ss_nil)))))
  (ss_nil)))
  (ss_cons (s_ret (j_mv (by decide +kernel)))
  (ss_nil)))
theorem sc_meet_spans : FnScope N_meet_spans [Str.ofString "one", Str.ofString "other"] (defScope s_meet_spans) := ⟨rfl, rfl, rfl, by decide +kernel, rfl, by decide +kernel, by decide +kernel⟩
abbrev s_tidy : Stmt := top 5
def N_tidy : List Str := [Str.ofString "spans", Str.ofString "found", Str.ofString "begin", Str.ofString "end"]
theorem nd_tidy : N_tidy.Nodup := by decide +kernel
theorem b_tidy {E : En} {G : GC} (hG : G.K = E.K) (m_max : E.mg (Str.ofString "max") = none) (m_sorted : E.mg (Str.ofString "sorted") = none) : JSs E G (fnPl N_tidy 0 (defScope s_tidy)) 4 [] (defBody s_tidy) ev_tidy :=
  ss_cons (s_asg (by decide +kernel) (by exact nd_tidy) (by decide) (by decide) (j_lst (j_nil)))
  (ss_cons (s_for (pn' := []) (j_src hG (j_bi hG ok_sorted (by decide +kernel) m_sorted (by decide +kernel) (j_dfr (by decide +kernel) (j_nil)))) rt_src (fun _ h => nomatch h) (by decide) (j_tgt hG (j_ns (by decide +kernel) (by exact nd_tidy) (by decide) (by decide) (j_ns (by decide +kernel) (by exact nd_tidy) (by decide) (by decide) (j_ns0)))) (ss_cons (s_if (j_w (j_wand (j_tval hG (j_var (by decide +kernel))) (j_wa1 (j_tcmp hG ok_le (.dc (by decide +kernel) (j_bin hG ok_add (.cc (j_ix hG ok_item (.cc (j_ix hG ok_item (.dc (by decide +kernel) (j_un hG ok_neg (j_int)) (by decide))) (j_int) (by decide) (by decide))) (j_int) (by decide) (by decide))) (by decide)))))) (ss_cons (s_set hG (by decide +kernel) (j_tup (j_cons (j_ix hG ok_item (.cc (j_ix hG ok_item (.dc (by decide +kernel) (j_un hG ok_neg (j_int)) (by decide))) (j_int) (by decide) (by decide))) (j_cons (j_bi hG ok_max2 (by decide +kernel) m_max (by decide +kernel) (j_cons (j_ix hG ok_item (.cc (j_ix hG ok_item (.dc (by decide +kernel) (j_un hG ok_neg (j_int)) (by decide))) (j_int) (by decide) (by decide))) (j_dfr (by decide +kernel) (j_nil)))) (j_nil)))) (j_un hG ok_neg (j_int)))
  (ss_nil)) (ss_cons (s_app hG (by decide +kernel) (j_tup (j_dfr (by decide +kernel) (j_dfr (by decide +kernel) (j_nil)))))
  (ss_nil)))
  (ss_nil)))
  (ss_cons (s_ret (j_mv (by decide +kernel)))
  (ss_nil)))
theorem sc_tidy : FnScope N_tidy [Str.ofString "spans"] (defScope s_tidy) := ⟨rfl, rfl, rfl, by decide +kernel, rfl, by decide +kernel, by decide +kernel⟩
abbrev s_join_spans : Stmt := top 6
def N_join_spans : List Str := [Str.ofString "one", Str.ofString "other"]
theorem nd_join_spans : N_join_spans.Nodup := by decide +kernel
theorem b_join_spans {E : En} {G : GC} (hG : G.K = E.K) (m_list : E.mg (Str.ofString "list") = none) (c_tidy : Fd E G (Str.ofString "tidy") 1 F_tidy []) : JSs E G (fnPl N_join_spans 1 (defScope s_join_spans)) 2 [] (defBody s_join_spans) ev_join_spans :=
  ss_cons (s_ret (j_own c_tidy (by decide) (by decide +kernel) (j_cons (j_bin hG ok_add (.cc (j_ty hG ok_list (by decide +kernel) m_list (by decide +kernel) (j_dfr (by decide +kernel) (j_nil))) (j_ty hG ok_list (by decide +kernel) m_list (by decide +kernel) (j_dfr (by decide +kernel) (j_nil))) (by decide) (by decide))) (j_nil))))
  (ss_nil)
theorem sc_join_spans : FnScope N_join_spans [Str.ofString "one", Str.ofString "other"] (defScope s_join_spans) := ⟨rfl, rfl, rfl, by decide +kernel, rfl, by decide +kernel, by decide +kernel⟩
abbrev s_turned : Stmt := top 7
def N_turned : List Str := [Str.ofString "spans", Str.ofString "low", Str.ofString "high", Str.ofString "found", Str.ofString "first", Str.ofString "begin", Str.ofString "end", Str.ofString "span"]
theorem nd_turned : N_turned.Nodup := by decide +kernel
theorem b_turned {E : En} {G : GC} (hG : G.K = E.K) (m_max : E.mg (Str.ofString "max") = none) (m_min : E.mg (Str.ofString "min") = none) : JSs E G (fnPl N_turned 0 (defScope s_turned)) 8 [] (defBody s_turned) ev_turned :=
  ss_cons (s_asg (by decide +kernel) (by exact nd_turned) (by decide) (by decide) (j_lst (j_nil)))
  (ss_cons (s_asg (by decide +kernel) (by exact nd_turned) (by decide) (by decide) (j_fv (by decide +kernel)))
  (ss_cons (s_for (pn' := [0]) (j_srcV hG (by decide +kernel)) rt_src (fun i h => by cases h; decide) (by decide) (j_tgt hG (j_ns (by decide +kernel) (by exact nd_turned) (by decide) (by decide) (j_ns (by decide +kernel) (by exact nd_turned) (by decide) (by decide) (j_ns0)))) (ss_cons (s_if (j_tcmp hG ok_gt (.dc (by decide +kernel) (j_var (by decide +kernel)) (by decide))) (ss_cons (s_app hG (by decide +kernel) (j_tup (j_dfr (by decide +kernel) (j_cons (j_bi hG ok_min2 (by decide +kernel) m_min (by decide +kernel) (j_cons (j_bin hG ok_sub (.dc (by decide +kernel) (j_int) (by decide))) (j_dfr (by decide +kernel) (j_nil)))) (j_nil)))))
  (ss_nil)) (ss_nil))
  (ss_cons (s_asg (by decide +kernel) (by exact nd_turned) (by decide) (by decide) (j_bi hG ok_max2 (by decide +kernel) m_max (by decide +kernel) (j_dfr (by decide +kernel) (j_cons (j_bin hG ok_add (.dc (by decide +kernel) (j_int) (by decide))) (j_nil)))))
  (ss_nil))))
  (ss_cons (s_if (j_tcmp hG ok_le (.dc (by decide +kernel) (j_var (by decide +kernel)) (by decide))) (ss_cons (s_app hG (by decide +kernel) (j_tup (j_dfr (by decide +kernel) (j_dfr (by decide +kernel) (j_nil)))))
  (ss_nil)) (ss_nil))
  (ss_cons (s_ret (JLc.pe (j_lcK (own := [(Str.ofString "span", 7)]) (by exact nd_turned) (by decide +kernel) (j_srcV hG (by decide +kernel)) rt_src (fun i h => by cases h; decide) (j_tg (by decide +kernel) (by exact nd_turned) (by decide) (by decide)) (j_tst (j_w (j_wand (j_tcmp hG ok_le (.cc (j_ix hG ok_item (.dc (by decide +kernel) (j_int) (by decide))) (j_ix hG ok_item (.dc (by decide +kernel) (j_int) (by decide))) (by decide) (by decide))) (j_wa1 (j_tcmp hG ok_le (.cc (j_ix hG ok_item (.dc (by decide +kernel) (j_int) (by decide))) (j_var (by decide +kernel)) (by decide) (by decide))))))) (j_fv (by decide +kernel)))))
  (ss_nil)))))
theorem sc_turned : FnScope N_turned [Str.ofString "spans", Str.ofString "low", Str.ofString "high"] (defScope s_turned) := ⟨rfl, rfl, rfl, by decide +kernel, rfl, by decide +kernel, by decide +kernel⟩
abbrev s_shifted : Stmt := top 8
def N_shifted : List Str := [Str.ofString "spans", Str.ofString "minutes", Str.ofString "low", Str.ofString "high", Str.ofString "moved", Str.ofString "begin", Str.ofString "end"]
theorem nd_shifted : N_shifted.Nodup := by decide +kernel
theorem b_shifted {E : En} {G : GC} (hG : G.K = E.K) (c_meet_spans : Fd E G (Str.ofString "meet_spans") 1 F_meet_spans []) : JSs E G (fnPl N_shifted 1 (defScope s_shifted)) 7 [] (defBody s_shifted) ev_shifted :=
  ss_cons (s_asgLc (by decide +kernel) (by decide +kernel) (by decide +kernel) (by decide) (by decide) (j_lcK (own := [(Str.ofString "begin", 5), (Str.ofString "end", 6)]) (by exact nd_shifted) (by decide +kernel) (j_srcV hG (by decide +kernel)) rt_src (fun i h => by cases h; decide) (j_tgt hG (j_ns (by decide +kernel) (by exact nd_shifted) (by decide) (by decide) (j_ns (by decide +kernel) (by exact nd_shifted) (by decide) (by decide) (j_ns0)))) (j_yes) (j_tup (j_cons (j_bin hG ok_add (.dc (by decide +kernel) (j_var (by decide +kernel)) (by decide))) (j_cons (j_bin hG ok_add (.dc (by decide +kernel) (j_var (by decide +kernel)) (by decide))) (j_nil))))) (by rfl) (by decide +kernel))
  (ss_cons (s_ret (j_own c_meet_spans (by decide) (by decide +kernel) (j_dfr (by decide +kernel) (j_cons (j_lst (j_cons (j_tup (j_dfr (by decide +kernel) (j_dfr (by decide +kernel) (j_nil)))) (j_nil))) (j_nil)))))
  (ss_nil))
theorem sc_shifted : FnScope N_shifted [Str.ofString "spans", Str.ofString "minutes", Str.ofString "low", Str.ofString "high"] (defScope s_shifted) := ⟨rfl, rfl, rfl, by decide +kernel, rfl, by decide +kernel, by decide +kernel⟩
abbrev s_shrunk : Stmt := top 9
def N_shrunk : List Str := [Str.ofString "spans", Str.ofString "minutes", Str.ofString "begin", Str.ofString "end"]
theorem nd_shrunk : N_shrunk.Nodup := by decide +kernel
theorem b_shrunk {E : En} {G : GC} (hG : G.K = E.K) : JSs E G (fnPl N_shrunk 0 (defScope s_shrunk)) 4 [] (defBody s_shrunk) ev_shrunk :=
  ss_cons (s_ret (JLc.pe (j_lcK (own := [(Str.ofString "begin", 2), (Str.ofString "end", 3)]) (by exact nd_shrunk) (by decide +kernel) (j_srcV hG (by decide +kernel)) rt_src (fun i h => by cases h; decide) (j_tgt hG (j_ns (by decide +kernel) (by exact nd_shrunk) (by decide) (by decide) (j_ns (by decide +kernel) (by exact nd_shrunk) (by decide) (by decide) (j_ns0)))) (j_tst (j_tcmp hG ok_le (.dc (by decide +kernel) (j_bin hG ok_sub (.dc (by decide +kernel) (j_var (by decide +kernel)) (by decide))) (by decide)))) (j_tup (j_dfr (by decide +kernel) (j_cons (j_bin hG ok_sub (.dc (by decide +kernel) (j_var (by decide +kernel)) (by decide))) (j_nil)))))))
  (ss_nil)
theorem sc_shrunk : FnScope N_shrunk [Str.ofString "spans", Str.ofString "minutes"] (defScope s_shrunk) := ⟨rfl, rfl, rfl, by decide +kernel, rfl, by decide +kernel, by decide +kernel⟩
abbrev s_length : Stmt := top 10
def N_length : List Str := [Str.ofString "spans", Str.ofString "begin", Str.ofString "end"]
theorem nd_length : N_length.Nodup := by decide +kernel
theorem b_length {E : En} {G : GC} (hG : G.K = E.K) (m_sum : E.mg (Str.ofString "sum") = none) : JSs E G (fnPl N_length 0 (defScope s_length)) 3 [] (defBody s_length) ev_length :=
  ss_cons (s_ret (j_bi hG ok_sum (by decide +kernel) m_sum (by decide +kernel) (j_cons (JLc.pe (j_lcK (own := [(Str.ofString "begin", 1), (Str.ofString "end", 2)]) (by exact nd_length) (by decide +kernel) (j_srcV hG (by decide +kernel)) rt_src (fun i h => by cases h; decide) (j_tgt hG (j_ns (by decide +kernel) (by exact nd_length) (by decide) (by decide) (j_ns (by decide +kernel) (by exact nd_length) (by decide) (by decide) (j_ns0)))) (j_yes) (j_bin hG ok_add (.cc (j_bin hG ok_sub (.dc (by decide +kernel) (j_var (by decide +kernel)) (by decide))) (j_int) (by decide) (by decide))))) (j_nil))))
  (ss_nil)
theorem sc_length : FnScope N_length [Str.ofString "spans"] (defScope s_length) := ⟨rfl, rfl, rfl, by decide +kernel, rfl, by decide +kernel, by decide +kernel⟩
abbrev s_nth : Stmt := top 11
def N_nth : List Str := [Str.ofString "spans", Str.ofString "number", Str.ofString "left", Str.ofString "begin", Str.ofString "end"]
theorem nd_nth : N_nth.Nodup := by decide +kernel
theorem b_nth {E : En} {G : GC} (hG : G.K = E.K) : JSs E G (fnPl N_nth 0 (defScope s_nth)) 5 [] (defBody s_nth) ev_nth :=
  ss_cons (s_asg (by decide +kernel) (by exact nd_nth) (by decide) (by decide) (j_fv (by decide +kernel)))
  (ss_cons (s_for (pn' := [0]) (j_srcV hG (by decide +kernel)) rt_src (fun i h => by cases h; decide) (by decide) (j_tgt hG (j_ns (by decide +kernel) (by exact nd_nth) (by decide) (by decide) (j_ns (by decide +kernel) (by exact nd_nth) (by decide) (by decide) (j_ns0)))) (ss_cons (s_if (j_tcmp hG ok_le (.dc (by decide +kernel) (j_bin hG ok_sub (.dc (by decide +kernel) (j_var (by decide +kernel)) (by decide))) (by decide))) (ss_cons (s_ret (j_bin hG ok_add (.dc (by decide +kernel) (j_var (by decide +kernel)) (by decide))))
  (ss_nil)) (ss_nil))
  (ss_cons (s_asg (by decide +kernel) (by exact nd_nth) (by decide) (by decide) (j_bin hG ok_sub (.dc (by decide +kernel) (j_bin hG ok_add (.cc (j_bin hG ok_sub (.dc (by decide +kernel) (j_var (by decide +kernel)) (by decide))) (j_int) (by decide) (by decide))) (by decide))))
  (ss_nil))))
  (ss_cons (s_ret (j_non))
  (ss_nil)))
theorem sc_nth : FnScope N_nth [Str.ofString "spans", Str.ofString "number"] (defScope s_nth) := ⟨rfl, rfl, rfl, by decide +kernel, rfl, by decide +kernel, by decide +kernel⟩
abbrev s_rank : Stmt := top 12
def N_rank : List Str := [Str.ofString "spans", Str.ofString "minute"]
theorem nd_rank : N_rank.Nodup := by decide +kernel
theorem b_rank {E : En} {G : GC} (hG : G.K = E.K) (c_meet_spans : Fd E G (Str.ofString "meet_spans") 1 F_meet_spans []) (c_length : Fd E G (Str.ofString "length") 1 F_length []) : JSs E G (fnPl N_rank 1 (defScope s_rank)) 2 [] (defBody s_rank) ev_rank :=
  ss_cons (s_ret (j_if (j_tcmp hG ok_gt (.dc (by decide +kernel) (j_int) (by decide))) (j_own c_length (by decide) (by decide +kernel) (j_cons (j_own c_meet_spans (by decide) (by decide +kernel) (j_dfr (by decide +kernel) (j_cons (j_lst (j_cons (j_tup (j_cons (j_int) (j_cons (j_bin hG ok_sub (.dc (by decide +kernel) (j_int) (by decide))) (j_nil)))) (j_nil))) (j_nil)))) (j_nil))) (j_int)))
  (ss_nil)
theorem sc_rank : FnScope N_rank [Str.ofString "spans", Str.ofString "minute"] (defScope s_rank) := ⟨rfl, rfl, rfl, by decide +kernel, rfl, by decide +kernel, by decide +kernel⟩
abbrev s_spans_of : Stmt := top 13
def N_spans_of : List Str := [Str.ofString "minutes", Str.ofString "minute"]
theorem nd_spans_of : N_spans_of.Nodup := by decide +kernel
theorem b_spans_of {E : En} {G : GC} (hG : G.K = E.K) (c_tidy : Fd E G (Str.ofString "tidy") 1 F_tidy []) : JSs E G (fnPl N_spans_of 1 (defScope s_spans_of)) 2 [] (defBody s_spans_of) ev_spans_of :=
  ss_cons (s_ret (j_own c_tidy (by decide) (by decide +kernel) (j_cons (JLc.pe (j_lcK (own := [(Str.ofString "minute", 1)]) (by exact nd_spans_of) (by decide +kernel) (j_srcV hG (by decide +kernel)) rt_src (fun i h => by cases h; decide) (j_tg (by decide +kernel) (by exact nd_spans_of) (by decide) (by decide)) (j_yes) (j_tup (j_dfr (by decide +kernel) (j_dfr (by decide +kernel) (j_nil)))))) (j_nil))))
  (ss_nil)
theorem sc_spans_of : FnScope N_spans_of [Str.ofString "minutes"] (defScope s_spans_of) := ⟨rfl, rfl, rfl, by decide +kernel, rfl, by decide +kernel, by decide +kernel⟩
abbrev s_within : Stmt := top 14
def N_within : List Str := [Str.ofString "one", Str.ofString "other"]
theorem nd_within : N_within.Nodup := by decide +kernel
theorem b_within {E : En} {G : GC} (hG : G.K = E.K) (m_list : E.mg (Str.ofString "list") = none) (c_meet_spans : Fd E G (Str.ofString "meet_spans") 1 F_meet_spans []) : JSs E G (fnPl N_within 1 (defScope s_within)) 2 [] (defBody s_within) ev_within :=
  ss_cons (s_ret (j_cmp hG ok_eq (.cc (j_own c_meet_spans (by decide) (by decide +kernel) (j_dfr (by decide +kernel) (j_dfr (by decide +kernel) (j_nil)))) (j_ty hG ok_list (by decide +kernel) m_list (by decide +kernel) (j_dfr (by decide +kernel) (j_nil))) (by decide) (by decide))))
  (ss_nil)
theorem sc_within : FnScope N_within [Str.ofString "one", Str.ofString "other"] (defScope s_within) := ⟨rfl, rfl, rfl, by decide +kernel, rfl, by decide +kernel, by decide +kernel⟩
abbrev s__law_cell : Stmt := top 16
def N__law_cell : List Str := [Str.ofString "script", Str.ofString "k"]
theorem nd__law_cell : N__law_cell.Nodup := by decide +kernel
theorem b__law_cell {E : En} {G : GC} (hG : G.K = E.K) (m_abs : E.mg (Str.ofString "abs") = none) (m_int : E.mg (Str.ofString "int") = none) (m_len : E.mg (Str.ofString "len") = none) : JSs E G (fnPl N__law_cell 0 (defScope s__law_cell)) 2 [] (defBody s__law_cell) ev__law_cell :=
  ss_cons (s_if (j_tcmp hG ok_lt (.dc (by decide +kernel) (j_bi hG ok_len (by decide +kernel) m_len (by decide +kernel) (j_dfr (by decide +kernel) (j_nil))) (by decide))) (ss_cons (s_ret (j_bi hG ok_abs (by decide +kernel) m_abs (by decide +kernel) (j_cons (j_ty hG ok_int (by decide +kernel) m_int (by decide +kernel) (j_cons (j_ix hG ok_item (.dc (by decide +kernel) (j_var (by decide +kernel)) (by decide))) (j_nil))) (j_nil))))
  (ss_nil)) (ss_nil))
  (ss_cons (s_ret (j_bin hG ok_add (.cc (j_bin hG ok_mul (.cc (j_int) (j_var (by decide +kernel)) (by decide) (by decide))) (j_int) (by decide) (by decide))))
  (ss_nil))
theorem sc__law_cell : FnScope N__law_cell [Str.ofString "script", Str.ofString "k"] (defScope s__law_cell) := ⟨rfl, rfl, rfl, by decide +kernel, rfl, by decide +kernel, by decide +kernel⟩
abbrev s__law_take : Stmt := top 17
def N__law_take : List Str := [Str.ofString "state", Str.ofString "limit", Str.ofString "cell", Str.ofString "found"]
theorem nd__law_take : N__law_take.Nodup := by decide +kernel
theorem b__law_take {E : En} {G : GC} (hG : G.K = E.K) (m_int : E.mg (Str.ofString "int") = none) (c__law_cell : Fd E G (Str.ofString "_law_cell") 1 F__law_cell []) : JSs E G (fnPl N__law_take 1 (defScope s__law_take)) 4 [0] (defBody s__law_take) ev__law_take :=
  ss_cons (s_if (j_tcmp hG ok_gt (.cc (j_ix hG ok_item (.dc (by decide +kernel) (j_int) (by decide))) (j_int) (by decide) (by decide))) (ss_cons (s_asg (by decide +kernel) (by exact nd__law_take) (by decide) (by decide) (j_bin hG ok_mod (.cc (j_ty hG ok_int (by decide +kernel) m_int (by decide +kernel) (j_cons (j_ix hG ok_item (.dc (by decide +kernel) (j_int) (by decide))) (j_nil))) (j_var (by decide +kernel)) (by decide) (by decide))))
  (ss_cons (s_set hG (by decide +kernel) (j_bin hG ok_div (.cc (j_ty hG ok_int (by decide +kernel) m_int (by decide +kernel) (j_cons (j_ix hG ok_item (.dc (by decide +kernel) (j_int) (by decide))) (j_nil))) (j_var (by decide +kernel)) (by decide) (by decide))) (j_int))
  (ss_cons (s_ret (j_mv (by decide +kernel)))
  (ss_nil)))) (ss_nil))
  (ss_cons (s_asg (by decide +kernel) (by exact nd__law_take) (by decide) (by decide) (j_own c__law_cell (by decide) (by decide +kernel) (j_cons (j_ix hG ok_item (.dc (by decide +kernel) (j_int) (by decide))) (j_cons (j_ix hG ok_item (.dc (by decide +kernel) (j_int) (by decide))) (j_nil)))))
  (ss_cons (s_set hG (by decide +kernel) (j_bin hG ok_add (.cc (j_ix hG ok_item (.dc (by decide +kernel) (j_int) (by decide))) (j_int) (by decide) (by decide))) (j_int))
  (ss_cons (s_if (j_tcmp hG ok_ge (.dc (by decide +kernel) (j_bin hG ok_pow (.cc (j_int) (j_int) (by decide) (by decide))) (by decide))) (ss_cons (s_set hG (by decide +kernel) (j_bin hG ok_div (.cc (j_ty hG ok_int (by decide +kernel) m_int (by decide +kernel) (j_dfr (by decide +kernel) (j_nil))) (j_var (by decide +kernel)) (by decide) (by decide))) (j_int))
  (ss_nil)) (ss_nil))
  (ss_cons (s_ret (j_bin hG ok_mod (.cc (j_ty hG ok_int (by decide +kernel) m_int (by decide +kernel) (j_dfr (by decide +kernel) (j_nil))) (j_var (by decide +kernel)) (by decide) (by decide))))
  (ss_nil)))))
theorem sc__law_take : FnScope N__law_take [Str.ofString "state", Str.ofString "limit"] (defScope s__law_take) := ⟨rfl, rfl, rfl, by decide +kernel, rfl, by decide +kernel, by decide +kernel⟩
abbrev s__law_spans : Stmt := top 18
def N__law_spans : List Str := [Str.ofString "state", Str.ofString "horizon", Str.ofString "most", Str.ofString "found", Str.ofString "first", Str.ofString "k", Str.ofString "begin", Str.ofString "end"]
theorem nd__law_spans : N__law_spans.Nodup := by decide +kernel
theorem b__law_spans {E : En} {G : GC} (hG : G.K = E.K) (m_min : E.mg (Str.ofString "min") = none) (m_range : E.mg (Str.ofString "range") = none) (c__law_take : Fd E G (Str.ofString "_law_take") 2 F__law_take []) : JSs E G (fnPl N__law_spans 2 (defScope s__law_spans)) 8 [0] (defBody s__law_spans) ev__law_spans :=
  ss_cons (s_asg (by decide +kernel) (by exact nd__law_spans) (by decide) (by decide) (j_lst (j_nil)))
  (ss_cons (s_asg (by decide +kernel) (by exact nd__law_spans) (by decide) (by decide) (j_int))
  (ss_cons (s_for (pn' := [0]) (j_rng1 (by decide +kernel) m_range (j_cons (j_ownM c__law_take (by decide) (by decide +kernel) (by decide +kernel) (j_cons (j_bin hG ok_add (.dc (by decide +kernel) (j_int) (by decide))) (j_nil))) (j_nil))) rt_rng (fun _ h => nomatch h) (by decide) (j_tg (by decide +kernel) (by exact nd__law_spans) (by decide) (by decide)) (ss_cons (s_asg (by decide +kernel) (by exact nd__law_spans) (by decide) (by decide) (j_bin hG ok_add (.dc (by decide +kernel) (j_ownM c__law_take (by decide) (by decide +kernel) (by decide +kernel) (j_cons (j_bin hG ok_add (.cc (j_bin hG ok_div (.dc (by decide +kernel) (j_int) (by decide))) (j_int) (by decide) (by decide))) (j_nil))) (by decide))))
  (ss_cons (s_asg (by decide +kernel) (by exact nd__law_spans) (by decide) (by decide) (j_bin hG ok_add (.dc (by decide +kernel) (j_ownM c__law_take (by decide) (by decide +kernel) (by decide +kernel) (j_cons (j_bin hG ok_add (.cc (j_bin hG ok_div (.dc (by decide +kernel) (j_int) (by decide))) (j_int) (by decide) (by decide))) (j_nil))) (by decide))))
  (ss_cons (s_if (j_tcmp hG ok_le (.dc (by decide +kernel) (j_var (by decide +kernel)) (by decide))) (ss_cons (s_app hG (by decide +kernel) (j_tup (j_dfr (by decide +kernel) (j_cons (j_bi hG ok_min2 (by decide +kernel) m_min (by decide +kernel) (j_dfr (by decide +kernel) (j_dfr (by decide +kernel) (j_nil)))) (j_nil)))))
  (ss_nil)) (ss_nil))
  (ss_cons (s_asg (by decide +kernel) (by exact nd__law_spans) (by decide) (by decide) (j_bin hG ok_add (.dc (by decide +kernel) (j_int) (by decide))))
  (ss_nil))))))
  (ss_cons (s_ret (j_mv (by decide +kernel)))
  (ss_nil))))
theorem sc__law_spans : FnScope N__law_spans [Str.ofString "state", Str.ofString "horizon", Str.ofString "most"] (defScope s__law_spans) := ⟨rfl, rfl, rfl, by decide +kernel, rfl, by decide +kernel, by decide +kernel⟩
abbrev s__law_set : Stmt := top 19
def N__law_set : List Str := [Str.ofString "spans", Str.ofString "minute", Str.ofString "span"]
theorem nd__law_set : N__law_set.Nodup := by decide +kernel
theorem b__law_set {E : En} {G : GC} (hG : G.K = E.K) (m_len : E.mg (Str.ofString "len") = none) (m_range : E.mg (Str.ofString "range") = none) : JSs E G (fnPl N__law_set 0 (defScope s__law_set)) 3 [] (defBody s__law_set) ev__law_set :=
  ss_cons (s_ret (JLc.pe (j_lcK (own := [(Str.ofString "minute", 1)]) (by exact nd__law_set) (by decide +kernel) (j_rng2 (by decide +kernel) m_range (j_cons (j_bin hG ok_sub (.cc (j_int) (j_int) (by decide) (by decide))) (j_cons (j_int) (j_nil)))) rt_rng (fun _ h => nomatch h) (j_tg (by decide +kernel) (by exact nd__law_set) (by decide) (by decide)) (j_tst (j_tcmp hG ok_gt (.cc (j_bi hG ok_len (by decide +kernel) m_len (by decide +kernel) (j_cons (JLc.pe (j_lcK (own := [(Str.ofString "span", 2)]) (by exact nd__law_set) (by decide +kernel) (j_srcV hG (by decide +kernel)) rt_src (fun i h => by cases h; decide) (j_tg (by decide +kernel) (by exact nd__law_set) (by decide) (by decide)) (j_tst (j_tchain hG ok_le ok_le (j_ix hG ok_item (.dc (by decide +kernel) (j_int) (by decide))) (j_var (by decide +kernel)) (j_ix hG ok_item (.dc (by decide +kernel) (j_int) (by decide))))) (j_fv (by decide +kernel)))) (j_nil))) (j_int) (by decide) (by decide)))) (j_fv (by decide +kernel)))))
  (ss_nil)
theorem sc__law_set : FnScope N__law_set [Str.ofString "spans"] (defScope s__law_set) := ⟨rfl, rfl, rfl, by decide +kernel, rfl, by decide +kernel, by decide +kernel⟩
abbrev s__law_of : Stmt := top 20
def N__law_of : List Str := [Str.ofString "minutes", Str.ofString "found", Str.ofString "minute"]
theorem nd__law_of : N__law_of.Nodup := by decide +kernel
theorem b__law_of {E : En} {G : GC} (hG : G.K = E.K) (m_sorted : E.mg (Str.ofString "sorted") = none) : JSs E G (fnPl N__law_of 0 (defScope s__law_of)) 3 [] (defBody s__law_of) ev__law_of :=
  ss_cons (s_asg (by decide +kernel) (by exact nd__law_of) (by decide) (by decide) (j_lst (j_nil)))
  (ss_cons (s_for (pn' := []) (j_src hG (j_bi hG ok_sorted (by decide +kernel) m_sorted (by decide +kernel) (j_dfr (by decide +kernel) (j_nil)))) rt_src (fun _ h => nomatch h) (by decide) (j_tg (by decide +kernel) (by exact nd__law_of) (by decide) (by decide)) (ss_cons (s_if (j_w (j_wand (j_tcmp hG ok_ne (.dc (by decide +kernel) (j_lst (j_nil)) (by decide))) (j_wa1 (j_tcmp hG ok_le (.dc (by decide +kernel) (j_bin hG ok_add (.cc (j_ix hG ok_item (.cc (j_ix hG ok_item (.dc (by decide +kernel) (j_un hG ok_neg (j_int)) (by decide))) (j_int) (by decide) (by decide))) (j_int) (by decide) (by decide))) (by decide)))))) (ss_cons (s_set hG (by decide +kernel) (j_tup (j_cons (j_ix hG ok_item (.cc (j_ix hG ok_item (.dc (by decide +kernel) (j_un hG ok_neg (j_int)) (by decide))) (j_int) (by decide) (by decide))) (j_dfr (by decide +kernel) (j_nil)))) (j_un hG ok_neg (j_int)))
  (ss_nil)) (ss_cons (s_app hG (by decide +kernel) (j_tup (j_dfr (by decide +kernel) (j_dfr (by decide +kernel) (j_nil)))))
  (ss_nil)))
  (ss_nil)))
  (ss_cons (s_ret (j_mv (by decide +kernel)))
  (ss_nil)))
theorem sc__law_of : FnScope N__law_of [Str.ofString "minutes"] (defScope s__law_of) := ⟨rfl, rfl, rfl, by decide +kernel, rfl, by decide +kernel, by decide +kernel⟩
abbrev s__law_one_right : Stmt := top 21
def N__law_one_right : List Str := [Str.ofString "spans", Str.ofString "minutes", Str.ofString "minute", Str.ofString "after", Str.ofString "before", Str.ofString "value"]
theorem nd__law_one_right : N__law_one_right.Nodup := by decide +kernel
theorem b__law_one_right {E : En} {G : GC} (hG : G.K = E.K) (m_len : E.mg (Str.ofString "len") = none) (m_repr : E.mg (Str.ofString "repr") = none) (c_inside : Fd E G (Str.ofString "inside") 1 F_inside []) (c_next_in : Fd E G (Str.ofString "next_in") 1 F_next_in []) (c_last_in : Fd E G (Str.ofString "last_in") 1 F_last_in []) (c_length : Fd E G (Str.ofString "length") 1 F_length []) (c_nth : Fd E G (Str.ofString "nth") 1 F_nth []) (c_rank : Fd E G (Str.ofString "rank") 2 F_rank []) : JSs E G (fnPl N__law_one_right 2 (defScope s__law_one_right)) 6 [] (defBody s__law_one_right) ev__law_one_right :=
  ss_cons (s_asgLc (by decide +kernel) (by decide +kernel) (by decide +kernel) (by decide) (by decide) (j_lcK (own := [(Str.ofString "value", 5)]) (by exact nd__law_one_right) (by decide +kernel) (j_srcV hG (by decide +kernel)) rt_src (fun i h => by cases h; decide) (j_tg (by decide +kernel) (by exact nd__law_one_right) (by decide) (by decide)) (j_tst (j_tcmp hG ok_ge (.dc (by decide +kernel) (j_var (by decide +kernel)) (by decide)))) (j_fv (by decide +kernel))) (by rfl) (by decide +kernel))
  (ss_cons (s_asgLc (by decide +kernel) (by decide +kernel) (by decide +kernel) (by decide) (by decide) (j_lcK (own := [(Str.ofString "value", 5)]) (by exact nd__law_one_right) (by decide +kernel) (j_srcV hG (by decide +kernel)) rt_src (fun i h => by cases h; decide) (j_tg (by decide +kernel) (by exact nd__law_one_right) (by decide) (by decide)) (j_tst (j_tcmp hG ok_le (.dc (by decide +kernel) (j_var (by decide +kernel)) (by decide)))) (j_fv (by decide +kernel))) (by rfl) (by decide +kernel))
  (ss_cons (s_if (j_w (j_wor (j_tcmp hG ok_ne (.cc (j_own c_next_in (by decide) (by decide +kernel) (j_dfr (by decide +kernel) (j_dfr (by decide +kernel) (j_nil)))) (j_if (j_tcmp hG ok_ne (.dc (by decide +kernel) (j_lst (j_nil)) (by decide))) (j_ix hG ok_item (.dc (by decide +kernel) (j_int) (by decide))) (j_non)) (by decide) (by decide))) (j_wo1 (j_tcmp hG ok_ne (.cc (j_own c_last_in (by decide) (by decide +kernel) (j_dfr (by decide +kernel) (j_dfr (by decide +kernel) (j_nil)))) (j_if (j_tcmp hG ok_ne (.dc (by decide +kernel) (j_lst (j_nil)) (by decide))) (j_ix hG ok_item (.dc (by decide +kernel) (j_un hG ok_neg (j_int)) (by decide))) (j_non)) (by decide) (by decide)))))) (ss_cons (s_ret (j_bl))
  (ss_nil)) (ss_nil))
  (ss_cons (s_if (j_w (j_wor (j_tcmp hG ok_ne (.cc (j_bi hG ok_repr (by decide +kernel) m_repr (by decide +kernel) (j_cons (j_own c_inside (by decide) (by decide +kernel) (j_dfr (by decide +kernel) (j_dfr (by decide +kernel) (j_nil)))) (j_nil))) (j_bi hG ok_repr (by decide +kernel) m_repr (by decide +kernel) (j_cons (j_cmp hG ok_in (.dc (by decide +kernel) (j_var (by decide +kernel)) (by decide))) (j_nil))) (by decide) (by decide))) (j_wo1 (j_tcmp hG ok_ne (.cc (j_own c_length (by decide) (by decide +kernel) (j_dfr (by decide +kernel) (j_nil))) (j_bi hG ok_len (by decide +kernel) m_len (by decide +kernel) (j_dfr (by decide +kernel) (j_nil))) (by decide) (by decide)))))) (ss_cons (s_ret (j_bl))
  (ss_nil)) (ss_nil))
  (ss_cons (s_if (j_tcmp hG ok_ne (.cc (j_own c_rank (by decide) (by decide +kernel) (j_dfr (by decide +kernel) (j_dfr (by decide +kernel) (j_nil)))) (j_bi hG ok_len (by decide +kernel) m_len (by decide +kernel) (j_cons (JLc.pe (j_lcK (own := [(Str.ofString "value", 5)]) (by exact nd__law_one_right) (by decide +kernel) (j_srcV hG (by decide +kernel)) rt_src (fun i h => by cases h; decide) (j_tg (by decide +kernel) (by exact nd__law_one_right) (by decide) (by decide)) (j_tst (j_tcmp hG ok_lt (.dc (by decide +kernel) (j_var (by decide +kernel)) (by decide)))) (j_fv (by decide +kernel)))) (j_nil))) (by decide) (by decide))) (ss_cons (s_ret (j_bl))
  (ss_nil)) (ss_nil))
  (ss_cons (s_ret (j_cmp hG ok_eq (.cc (j_own c_nth (by decide) (by decide +kernel) (j_dfr (by decide +kernel) (j_dfr (by decide +kernel) (j_nil)))) (j_if (j_tcmp hG ok_lt (.dc (by decide +kernel) (j_bi hG ok_len (by decide +kernel) m_len (by decide +kernel) (j_dfr (by decide +kernel) (j_nil))) (by decide))) (j_ix hG ok_item (.dc (by decide +kernel) (j_var (by decide +kernel)) (by decide))) (j_non)) (by decide) (by decide))))
  (ss_nil))))))
theorem sc__law_one_right : FnScope N__law_one_right [Str.ofString "spans", Str.ofString "minutes", Str.ofString "minute"] (defScope s__law_one_right) := ⟨rfl, rfl, rfl, by decide +kernel, rfl, by decide +kernel, by decide +kernel⟩
abbrev s_law : Stmt := top 22
def N_law : List Str := [Str.ofString "script", Str.ofString "state", Str.ofString "one", Str.ofString "other", Str.ofString "first", Str.ofString "second", Str.ofString "k", Str.ofString "common", Str.ofString "told", Str.ofString "low", Str.ofString "high", Str.ofString "move", Str.ofString "size", Str.ofString "due", Str.ofString "drawn", Str.ofString "rows", Str.ofString "minute", Str.ofString "span"]
theorem nd_law : N_law.Nodup := by decide +kernel
theorem b_law {E : En} {G : GC} (hG : G.K = E.K) (m_len : E.mg (Str.ofString "len") = none) (m_list : E.mg (Str.ofString "list") = none) (m_range : E.mg (Str.ofString "range") = none) (m_repr : E.mg (Str.ofString "repr") = none) (m_sorted : E.mg (Str.ofString "sorted") = none) (c_meet_spans : Fd E G (Str.ofString "meet_spans") 1 F_meet_spans []) (c_tidy : Fd E G (Str.ofString "tidy") 1 F_tidy []) (c_join_spans : Fd E G (Str.ofString "join_spans") 2 F_join_spans []) (c_turned : Fd E G (Str.ofString "turned") 1 F_turned []) (c_shifted : Fd E G (Str.ofString "shifted") 2 F_shifted []) (c_shrunk : Fd E G (Str.ofString "shrunk") 1 F_shrunk []) (c_spans_of : Fd E G (Str.ofString "spans_of") 2 F_spans_of []) (c_within : Fd E G (Str.ofString "within") 2 F_within []) (c__law_take : Fd E G (Str.ofString "_law_take") 2 F__law_take []) (c__law_spans : Fd E G (Str.ofString "_law_spans") 3 F__law_spans []) (c__law_set : Fd E G (Str.ofString "_law_set") 1 F__law_set []) (c__law_of : Fd E G (Str.ofString "_law_of") 1 F__law_of []) (c__law_one_right : Fd E G (Str.ofString "_law_one_right") 3 F__law_one_right []) : JSs E G (fnPl N_law 3 (defScope s_law)) 18 [] (defBody s_law) ev_law :=
  ss_cons (s_asg (by decide +kernel) (by exact nd_law) (by decide) (by decide) (j_lst (j_dfr (by decide +kernel) (j_cons (j_int) (j_cons (j_int) (j_nil))))))
  (ss_cons (s_asg (by decide +kernel) (by exact nd_law) (by decide) (by decide) (j_ownM c__law_spans (by decide) (by decide +kernel) (by decide +kernel) (j_cons (j_int) (j_cons (j_int) (j_nil)))))
  (ss_cons (s_asg (by decide +kernel) (by exact nd_law) (by decide) (by decide) (j_ownM c__law_spans (by decide) (by decide +kernel) (by decide +kernel) (j_cons (j_int) (j_cons (j_int) (j_nil)))))
  (ss_cons (s_if (j_tcmp hG ok_eq (.cc (j_ownM c__law_take (by decide) (by decide +kernel) (by decide +kernel) (j_cons (j_int) (j_nil))) (j_int) (by decide) (by decide))) (ss_cons (s_asgLc (by decide +kernel) (by decide +kernel) (by decide +kernel) (by decide) (by decide) (j_lcK (own := [(Str.ofString "span", 17)]) (by exact nd_law) (by decide +kernel) (j_srcV hG (by decide +kernel)) rt_src (fun i h => by cases h; decide) (j_tg (by decide +kernel) (by exact nd_law) (by decide) (by decide)) (j_tst (j_tcmp hG ok_eq (.cc (j_ownM c__law_take (by decide) (by decide +kernel) (by decide +kernel) (j_cons (j_int) (j_nil))) (j_int) (by decide) (by decide)))) (j_fv (by decide +kernel))) (by rfl) (by decide +kernel))
  (ss_nil)) (ss_nil))
  (ss_cons (s_asg (by decide +kernel) (by exact nd_law) (by decide) (by decide) (j_own c__law_set (by decide) (by decide +kernel) (j_dfr (by decide +kernel) (j_nil))))
  (ss_cons (s_asg (by decide +kernel) (by exact nd_law) (by decide) (by decide) (j_own c__law_set (by decide) (by decide +kernel) (j_dfr (by decide +kernel) (j_nil))))
  (ss_cons (s_for (pn' := []) (j_rng1 (by decide +kernel) m_range (j_cons (j_int) (j_nil))) rt_rng (fun _ h => nomatch h) (by decide) (j_tg (by decide +kernel) (by exact nd_law) (by decide) (by decide)) (ss_cons (s_if (j_tnot (j_tval hG (j_own c__law_one_right (by decide) (by decide +kernel) (j_dfr (by decide +kernel) (j_dfr (by decide +kernel) (j_cons (j_ownM c__law_take (by decide) (by decide +kernel) (by decide +kernel) (j_cons (j_int) (j_nil))) (j_nil))))))) (ss_cons (s_ret (j_bl))
  (ss_nil)) (ss_nil))
  (ss_nil)))
  (ss_cons (s_asgLc (by decide +kernel) (by decide +kernel) (by decide +kernel) (by decide) (by decide) (j_lcK (own := [(Str.ofString "minute", 16)]) (by exact nd_law) (by decide +kernel) (j_srcV hG (by decide +kernel)) rt_src (fun i h => by cases h; decide) (j_tg (by decide +kernel) (by exact nd_law) (by decide) (by decide)) (j_tst (j_tcmp hG ok_in (.dc (by decide +kernel) (j_var (by decide +kernel)) (by decide)))) (j_fv (by decide +kernel))) (by rfl) (by decide +kernel))
  (ss_cons (s_asg (by decide +kernel) (by exact nd_law) (by decide) (by decide) (j_own c_meet_spans (by decide) (by decide +kernel) (j_cons (j_ty hG ok_list (by decide +kernel) m_list (by decide +kernel) (j_dfr (by decide +kernel) (j_nil))) (j_dfr (by decide +kernel) (j_nil)))))
  (ss_cons (s_if (j_w (j_wor (j_tcmp hG ok_ne (.cc (j_own c__law_set (by decide) (by decide +kernel) (j_dfr (by decide +kernel) (j_nil))) (j_var (by decide +kernel)) (by decide) (by decide))) (j_wo1 (j_tcmp hG ok_ne (.dc (by decide +kernel) (j_bi hG ok_sorted (by decide +kernel) m_sorted (by decide +kernel) (j_dfr (by decide +kernel) (j_nil))) (by decide)))))) (ss_cons (s_ret (j_bl))
  (ss_nil)) (ss_nil))
  (ss_cons (s_if (j_w (j_wor (j_tcmp hG ok_ne (.cc (j_own c_join_spans (by decide) (by decide +kernel) (j_dfr (by decide +kernel) (j_dfr (by decide +kernel) (j_nil)))) (j_own c__law_of (by decide) (by decide +kernel) (j_cons (j_bin hG ok_add (.dc (by decide +kernel) (j_var (by decide +kernel)) (by decide))) (j_nil))) (by decide) (by decide))) (j_wo1 (j_tcmp hG ok_ne (.cc (j_bi hG ok_repr (by decide +kernel) m_repr (by decide +kernel) (j_cons (j_own c_within (by decide) (by decide +kernel) (j_dfr (by decide +kernel) (j_dfr (by decide +kernel) (j_nil)))) (j_nil))) (j_bi hG ok_repr (by decide +kernel) m_repr (by decide +kernel) (j_cons (j_cmp hG ok_eq (.cc (j_bi hG ok_len (by decide +kernel) m_len (by decide +kernel) (j_cons (JLc.pe (j_lcK (own := [(Str.ofString "minute", 16)]) (by exact nd_law) (by decide +kernel) (j_srcV hG (by decide +kernel)) rt_src (fun i h => by cases h; decide) (j_tg (by decide +kernel) (by exact nd_law) (by decide) (by decide)) (j_tst (j_tcmp hG ok_notIn (.dc (by decide +kernel) (j_var (by decide +kernel)) (by decide)))) (j_fv (by decide +kernel)))) (j_nil))) (j_int) (by decide) (by decide))) (j_nil))) (by decide) (by decide)))))) (ss_cons (s_ret (j_bl))
  (ss_nil)) (ss_nil))
  (ss_cons (s_asg (by decide +kernel) (by exact nd_law) (by decide) (by decide) (j_ownM c__law_take (by decide) (by decide +kernel) (by decide +kernel) (j_cons (j_int) (j_nil))))
  (ss_cons (s_asg (by decide +kernel) (by exact nd_law) (by decide) (by decide) (j_bin hG ok_add (.dc (by decide +kernel) (j_ownM c__law_take (by decide) (by decide +kernel) (by decide +kernel) (j_cons (j_int) (j_nil))) (by decide))))
  (ss_cons (s_if (j_tcmp hG ok_ne (.cc (j_own c_turned (by decide) (by decide +kernel) (j_dfr (by decide +kernel) (j_dfr (by decide +kernel) (j_dfr (by decide +kernel) (j_nil))))) (j_own c__law_of (by decide) (by decide +kernel) (j_cons (JLc.pe (j_lcK (own := [(Str.ofString "minute", 16)]) (by exact nd_law) (by decide +kernel) (j_rng2 (by decide +kernel) m_range (j_dfr (by decide +kernel) (j_cons (j_bin hG ok_add (.dc (by decide +kernel) (j_int) (by decide))) (j_nil)))) rt_rng (fun _ h => nomatch h) (j_tg (by decide +kernel) (by exact nd_law) (by decide) (by decide)) (j_tst (j_tcmp hG ok_notIn (.dc (by decide +kernel) (j_var (by decide +kernel)) (by decide)))) (j_fv (by decide +kernel)))) (j_nil))) (by decide) (by decide))) (ss_cons (s_ret (j_bl))
  (ss_nil)) (ss_nil))
  (ss_cons (s_asg (by decide +kernel) (by exact nd_law) (by decide) (by decide) (j_bin hG ok_sub (.cc (j_ownM c__law_take (by decide) (by decide +kernel) (by decide +kernel) (j_cons (j_int) (j_nil))) (j_int) (by decide) (by decide))))
  (ss_cons (s_if (j_tcmp hG ok_ne (.cc (j_own c__law_of (by decide) (by decide +kernel) (j_cons (j_own c__law_set (by decide) (by decide +kernel) (j_cons (j_own c_shifted (by decide) (by decide +kernel) (j_dfr (by decide +kernel) (j_dfr (by decide +kernel) (j_dfr (by decide +kernel) (j_dfr (by decide +kernel) (j_nil)))))) (j_nil))) (j_nil))) (j_own c__law_of (by decide) (by decide +kernel) (j_cons (JLc.pe (j_lcK (own := [(Str.ofString "minute", 16)]) (by exact nd_law) (by decide +kernel) (j_srcV hG (by decide +kernel)) rt_src (fun i h => by cases h; decide) (j_tg (by decide +kernel) (by exact nd_law) (by decide) (by decide)) (j_tst (j_tchain hG ok_le ok_le (j_var (by decide +kernel)) (j_bin hG ok_add (.dc (by decide +kernel) (j_var (by decide +kernel)) (by decide))) (j_var (by decide +kernel)))) (j_bin hG ok_add (.dc (by decide +kernel) (j_var (by decide +kernel)) (by decide))))) (j_nil))) (by decide) (by decide))) (ss_cons (s_ret (j_bl))
  (ss_nil)) (ss_nil))
  (ss_cons (s_asg (by decide +kernel) (by exact nd_law) (by decide) (by decide) (j_ownM c__law_take (by decide) (by decide +kernel) (by decide +kernel) (j_cons (j_int) (j_nil))))
  (ss_cons (s_asgLc (by decide +kernel) (by decide +kernel) (by decide +kernel) (by decide) (by decide) (j_lcK (own := [(Str.ofString "minute", 16)]) (by exact nd_law) (by decide +kernel) (j_srcV hG (by decide +kernel)) rt_src (fun i h => by cases h; decide) (j_tg (by decide +kernel) (by exact nd_law) (by decide) (by decide)) (j_tst (j_tcmp hG ok_gt (.cc (j_bi hG ok_len (by decide +kernel) m_len (by decide +kernel) (j_cons (JLc.pe (j_lcK (own := [(Str.ofString "span", 17)]) (by exact nd_law) (by decide +kernel) (j_srcV hG (by decide +kernel)) rt_src (fun i h => by cases h; decide) (j_tg (by decide +kernel) (by exact nd_law) (by decide) (by decide)) (j_tst (j_w (j_wand (j_tcmp hG ok_le (.cc (j_ix hG ok_item (.dc (by decide +kernel) (j_int) (by decide))) (j_var (by decide +kernel)) (by decide) (by decide))) (j_wa1 (j_tcmp hG ok_le (.cc (j_bin hG ok_add (.dc (by decide +kernel) (j_var (by decide +kernel)) (by decide))) (j_ix hG ok_item (.dc (by decide +kernel) (j_int) (by decide))) (by decide) (by decide))))))) (j_fv (by decide +kernel)))) (j_nil))) (j_int) (by decide) (by decide)))) (j_fv (by decide +kernel))) (by rfl) (by decide +kernel))
  (ss_cons (s_if (j_tcmp hG ok_ne (.cc (j_own c_shrunk (by decide) (by decide +kernel) (j_dfr (by decide +kernel) (j_dfr (by decide +kernel) (j_nil)))) (j_own c__law_of (by decide) (by decide +kernel) (j_dfr (by decide +kernel) (j_nil))) (by decide) (by decide))) (ss_cons (s_ret (j_bl))
  (ss_nil)) (ss_nil))
  (ss_cons (s_asgLc (by decide +kernel) (by decide +kernel) (by decide +kernel) (by decide) (by decide) (j_lcK (own := [(Str.ofString "k", 6)]) (by exact nd_law) (by decide +kernel) (j_rng1 (by decide +kernel) m_range (j_cons (j_ownM c__law_take (by decide) (by decide +kernel) (by decide +kernel) (j_cons (j_int) (j_nil))) (j_nil))) rt_rng (fun _ h => nomatch h) (j_tg (by decide +kernel) (by exact nd_law) (by decide) (by decide)) (j_yes) (j_ownM c__law_take (by decide) (by decide +kernel) (by decide +kernel) (j_cons (j_int) (j_nil)))) (by rfl) (by decide +kernel))
  (ss_cons (s_asgLc (by decide +kernel) (by decide +kernel) (by decide +kernel) (by decide) (by decide) (j_lcK (own := [(Str.ofString "minute", 16)]) (by exact nd_law) (by decide +kernel) (j_srcV hG (by decide +kernel)) rt_src (fun i h => by cases h; decide) (j_tg (by decide +kernel) (by exact nd_law) (by decide) (by decide)) (j_yes) (j_tup (j_dfr (by decide +kernel) (j_cons (j_bin hG ok_add (.dc (by decide +kernel) (j_ownM c__law_take (by decide) (by decide +kernel) (by decide +kernel) (j_cons (j_int) (j_nil))) (by decide))) (j_nil))))) (by rfl) (by decide +kernel))
  (ss_cons (s_ret (j_andV (j_cmp hG ok_eq (.cc (j_own c_spans_of (by decide) (by decide +kernel) (j_cons (j_ty hG ok_list (by decide +kernel) m_list (by decide +kernel) (j_dfr (by decide +kernel) (j_nil))) (j_nil))) (j_own c__law_of (by decide) (by decide +kernel) (j_dfr (by decide +kernel) (j_nil))) (by decide) (by decide))) (j_andV (j_cmp hG ok_eq (.cc (j_own c_tidy (by decide) (by decide +kernel) (j_cons (j_ty hG ok_list (by decide +kernel) m_list (by decide +kernel) (j_dfr (by decide +kernel) (j_nil))) (j_nil))) (j_own c__law_of (by decide) (by decide +kernel) (j_cons (j_own c__law_set (by decide) (by decide +kernel) (j_dfr (by decide +kernel) (j_nil))) (j_nil))) (by decide) (by decide))) (j_one (j_opq (j_cmp hG ok_eq (.cc (j_own c__law_of (by decide) (by decide +kernel) (j_dfr (by decide +kernel) (j_nil))) (j_var (by decide +kernel)) (by decide) (by decide))))))))
  (ss_nil))))))))))))))))))))))
theorem sc_law : FnScope N_law [Str.ofString "script"] (defScope s_law) := ⟨rfl, rfl, rfl, by decide +kernel, rfl, by decide +kernel, by decide +kernel⟩
end K11
namespace K11
open PySem PD
abbrev scr (ns : List Int) : D := .lst .k (ns.map .int)
abbrev stt (ns : List Int) (p v : Int) : D := .lst .o [scr ns, .int p, .int v]
theorem cell_ok (ns : List Int) (p : Nat) : ∃ c : Int, 0 ≤ c ∧ F__law_cell [scr ns, .int p] = some (.ok (.int c), [none, none]) := by
  unfold F__law_cell
  by_cases h : p < ns.length
  · refine ⟨if ns[p] < 0 then - ns[p] else ns[p], by split <;> omega, fn_go rfl ?_⟩
    show Go ev__law_cell [some (scr ns), some (.int p)] _
    have hp : p < (ns.map D.int).length := by simpa using h
    simp only [ev__law_cell, e_cst, e_nil, e_yes, e_var, e_fv, e_mv, e_cons, e_dfr, e_op, e_tup, e_lst, e_tr, e_notT, e_andT, e_orT, e_andV, e_orV, e_notV, e_opq, e_if, e_call, e_callM, e_chain, e_src, e_rng, e_lc, g_nx, g_retN, g_brk, g_cnt, g_seq, g_drop, g_ret, g_asg, g_if, g_for, g_app, g_set, kk_ok, kS_ok, kQ_nx, kQ_rt, kQ_bk, kQ_ct, has_some, sl_0, sl_s, st_0, st_s, v_add, v_sub, v_neg, v_lt, v_le, v_gt, v_ge, v_eqi, v_nei, v_is, v_isNot, v_len, v_lenT, v_abs, v_int, v_item, v_itemT, v_list, v_max, v_min, v_repr, blD_bl, truD_bl, truD_lst, isF_int, isF_bl, isF_non, isF_tup, isF_str, isF_lf, isF_lk, isF_lo, isF_ll, at_0, at_1, at_2, ix_0, ix_1, ix_2, cap_i, cap_t, noL_i, noL_n, noL_b, noL_t, ck_0, ck_s, lk_0, lk_1, lk_2, lk_3, lk_4, ln_0, ln_1, ln_2, ln_3, ln_4, own_o, own_l, own_f, its_o, its_l, its_f, lend_o, lend_i, lend_b, lend_n, lend_s, lend_t, cap_k, cap_f, lend_l, lend_f, sh_o, sh_l, sh_f, sh_k, Bool.or_true, Bool.true_or, Bool.or_false, Bool.false_or, intD, isLst, lstO, List.set_cons_zero, List.set_cons_succ, bind_S, forL_0, kL_nx, kL_ct, kL_bk, kL_rt, tg_n, tg_t, tg_0, tg_s, wp_0, wp_s, bk_0, bk_s, rd_0, rd_s, sb_a, sb_l, si_a, si_l, hd_0, out_t, out_f, argD, ite_self, List.map_cons, List.map_nil, List.append_nil, List.cons_append, List.nil_append, Bool.and_true, Bool.true_and, Bool.not_true, Bool.not_false, Bool.and_false, Bool.false_and, true_and, and_true, decide_eq_true_eq, Bool.false_eq_true, if_false, if_true, ite_true, ite_false, reduceIte, Bool.not_eq_true', at_nat hp]
    rw [if_pos (by simpa using h)]
    simp only [List.getElem_map, e_cst, e_nil, e_yes, e_var, e_fv, e_mv, e_cons, e_dfr, e_op, e_tup, e_lst, e_tr, e_notT, e_andT, e_orT, e_andV, e_orV, e_notV, e_opq, e_if, e_call, e_callM, e_chain, e_src, e_rng, e_lc, g_nx, g_retN, g_brk, g_cnt, g_seq, g_drop, g_ret, g_asg, g_if, g_for, g_app, g_set, kk_ok, kS_ok, kQ_nx, kQ_rt, kQ_bk, kQ_ct, has_some, sl_0, sl_s, st_0, st_s, v_add, v_sub, v_neg, v_lt, v_le, v_gt, v_ge, v_eqi, v_nei, v_is, v_isNot, v_len, v_lenT, v_abs, v_int, v_item, v_itemT, v_list, v_max, v_min, v_repr, blD_bl, truD_bl, truD_lst, isF_int, isF_bl, isF_non, isF_tup, isF_str, isF_lf, isF_lk, isF_lo, isF_ll, at_0, at_1, at_2, ix_0, ix_1, ix_2, cap_i, cap_t, noL_i, noL_n, noL_b, noL_t, ck_0, ck_s, lk_0, lk_1, lk_2, lk_3, lk_4, ln_0, ln_1, ln_2, ln_3, ln_4, own_o, own_l, own_f, its_o, its_l, its_f, lend_o, lend_i, lend_b, lend_n, lend_s, lend_t, cap_k, cap_f, lend_l, lend_f, sh_o, sh_l, sh_f, sh_k, Bool.or_true, Bool.true_or, Bool.or_false, Bool.false_or, intD, isLst, lstO, List.set_cons_zero, List.set_cons_succ, bind_S, forL_0, kL_nx, kL_ct, kL_bk, kL_rt, tg_n, tg_t, tg_0, tg_s, wp_0, wp_s, bk_0, bk_s, rd_0, rd_s, sb_a, sb_l, si_a, si_l, hd_0, out_t, out_f, argD, ite_self, List.map_cons, List.map_nil, List.append_nil, List.cons_append, List.nil_append, Bool.and_true, Bool.true_and, Bool.not_true, Bool.not_false, Bool.and_false, Bool.false_and, true_and, and_true, decide_eq_true_eq, Bool.false_eq_true, if_false, if_true, ite_true, ite_false, reduceIte, Bool.not_eq_true']
    rfl
  · refine ⟨37 * p + 11, by omega, fn_go rfl ?_⟩
    show Go ev__law_cell [some (scr ns), some (.int p)] _
    simp only [ev__law_cell, e_cst, e_nil, e_yes, e_var, e_fv, e_mv, e_cons, e_dfr, e_op, e_tup, e_lst, e_tr, e_notT, e_andT, e_orT, e_andV, e_orV, e_notV, e_opq, e_if, e_call, e_callM, e_chain, e_src, e_rng, e_lc, g_nx, g_retN, g_brk, g_cnt, g_seq, g_drop, g_ret, g_asg, g_if, g_for, g_app, g_set, kk_ok, kS_ok, kQ_nx, kQ_rt, kQ_bk, kQ_ct, has_some, sl_0, sl_s, st_0, st_s, v_add, v_sub, v_neg, v_lt, v_le, v_gt, v_ge, v_eqi, v_nei, v_is, v_isNot, v_len, v_lenT, v_abs, v_int, v_item, v_itemT, v_list, v_max, v_min, v_repr, blD_bl, truD_bl, truD_lst, isF_int, isF_bl, isF_non, isF_tup, isF_str, isF_lf, isF_lk, isF_lo, isF_ll, at_0, at_1, at_2, ix_0, ix_1, ix_2, cap_i, cap_t, noL_i, noL_n, noL_b, noL_t, ck_0, ck_s, lk_0, lk_1, lk_2, lk_3, lk_4, ln_0, ln_1, ln_2, ln_3, ln_4, own_o, own_l, own_f, its_o, its_l, its_f, lend_o, lend_i, lend_b, lend_n, lend_s, lend_t, cap_k, cap_f, lend_l, lend_f, sh_o, sh_l, sh_f, sh_k, Bool.or_true, Bool.true_or, Bool.or_false, Bool.false_or, intD, isLst, lstO, List.set_cons_zero, List.set_cons_succ, bind_S, forL_0, kL_nx, kL_ct, kL_bk, kL_rt, tg_n, tg_t, tg_0, tg_s, wp_0, wp_s, bk_0, bk_s, rd_0, rd_s, sb_a, sb_l, si_a, si_l, hd_0, out_t, out_f, argD, ite_self, List.map_cons, List.map_nil, List.append_nil, List.cons_append, List.nil_append, Bool.and_true, Bool.true_and, Bool.not_true, Bool.not_false, Bool.and_false, Bool.false_and, true_and, and_true, decide_eq_true_eq, Bool.false_eq_true, if_false, if_true, ite_true, ite_false, reduceIte, Bool.not_eq_true']
    rw [if_neg (by simpa using h), v_mul (mulL (by decide))]
    simp only [e_cst, e_nil, e_yes, e_var, e_fv, e_mv, e_cons, e_dfr, e_op, e_tup, e_lst, e_tr, e_notT, e_andT, e_orT, e_andV, e_orV, e_notV, e_opq, e_if, e_call, e_callM, e_chain, e_src, e_rng, e_lc, g_nx, g_retN, g_brk, g_cnt, g_seq, g_drop, g_ret, g_asg, g_if, g_for, g_app, g_set, kk_ok, kS_ok, kQ_nx, kQ_rt, kQ_bk, kQ_ct, has_some, sl_0, sl_s, st_0, st_s, v_add, v_sub, v_neg, v_lt, v_le, v_gt, v_ge, v_eqi, v_nei, v_is, v_isNot, v_len, v_lenT, v_abs, v_int, v_item, v_itemT, v_list, v_max, v_min, v_repr, blD_bl, truD_bl, truD_lst, isF_int, isF_bl, isF_non, isF_tup, isF_str, isF_lf, isF_lk, isF_lo, isF_ll, at_0, at_1, at_2, ix_0, ix_1, ix_2, cap_i, cap_t, noL_i, noL_n, noL_b, noL_t, ck_0, ck_s, lk_0, lk_1, lk_2, lk_3, lk_4, ln_0, ln_1, ln_2, ln_3, ln_4, own_o, own_l, own_f, its_o, its_l, its_f, lend_o, lend_i, lend_b, lend_n, lend_s, lend_t, cap_k, cap_f, lend_l, lend_f, sh_o, sh_l, sh_f, sh_k, Bool.or_true, Bool.true_or, Bool.or_false, Bool.false_or, intD, isLst, lstO, List.set_cons_zero, List.set_cons_succ, bind_S, forL_0, kL_nx, kL_ct, kL_bk, kL_rt, tg_n, tg_t, tg_0, tg_s, wp_0, wp_s, bk_0, bk_s, rd_0, rd_s, sb_a, sb_l, si_a, si_l, hd_0, out_t, out_f, argD, ite_self, List.map_cons, List.map_nil, List.append_nil, List.cons_append, List.nil_append, Bool.and_true, Bool.true_and, Bool.not_true, Bool.not_false, Bool.and_false, Bool.false_and, true_and, and_true, decide_eq_true_eq, Bool.false_eq_true, if_false, if_true, ite_true, ite_false, reduceIte, Bool.not_eq_true']
    rfl
theorem take_ok (ns : List Int) (p : Nat) (v L : Int) (hv : 0 ≤ v) (hL : 0 < L) (hL2 : L < 1073741824) : ∃ (r : Int) (p' : Nat) (v' : Int), 0 ≤ r ∧ r < L ∧ 0 ≤ v' ∧ F__law_take [stt ns p v, .int L] = some (.ok (.int r), [some (stt ns p' v'), none]) := by
  unfold F__law_take
  by_cases h : 0 < v
  · refine ⟨v % L, p, v / L, Int.emod_nonneg _ (by omega), Int.emod_lt_of_pos _ hL, Int.ediv_nonneg (by omega) (by omega), fn_go rfl ?_⟩
    show Go ev__law_take [some (stt ns p v), some (.int L), none, none] _
    simp only [ev__law_take, e_cst, e_nil, e_yes, e_var, e_fv, e_mv, e_cons, e_dfr, e_op, e_tup, e_lst, e_tr, e_notT, e_andT, e_orT, e_andV, e_orV, e_notV, e_opq, e_if, e_call, e_callM, e_chain, e_src, e_rng, e_lc, g_nx, g_retN, g_brk, g_cnt, g_seq, g_drop, g_ret, g_asg, g_if, g_for, g_app, g_set, kk_ok, kS_ok, kQ_nx, kQ_rt, kQ_bk, kQ_ct, has_some, sl_0, sl_s, st_0, st_s, v_add, v_sub, v_neg, v_lt, v_le, v_gt, v_ge, v_eqi, v_nei, v_is, v_isNot, v_len, v_lenT, v_abs, v_int, v_item, v_itemT, v_list, v_max, v_min, v_repr, blD_bl, truD_bl, truD_lst, isF_int, isF_bl, isF_non, isF_tup, isF_str, isF_lf, isF_lk, isF_lo, isF_ll, at_0, at_1, at_2, ix_0, ix_1, ix_2, cap_i, cap_t, noL_i, noL_n, noL_b, noL_t, ck_0, ck_s, lk_0, lk_1, lk_2, lk_3, lk_4, ln_0, ln_1, ln_2, ln_3, ln_4, own_o, own_l, own_f, its_o, its_l, its_f, lend_o, lend_i, lend_b, lend_n, lend_s, lend_t, cap_k, cap_f, lend_l, lend_f, sh_o, sh_l, sh_f, sh_k, Bool.or_true, Bool.true_or, Bool.or_false, Bool.false_or, intD, isLst, lstO, List.set_cons_zero, List.set_cons_succ, bind_S, forL_0, kL_nx, kL_ct, kL_bk, kL_rt, tg_n, tg_t, tg_0, tg_s, wp_0, wp_s, bk_0, bk_s, rd_0, rd_s, sb_a, sb_l, si_a, si_l, hd_0, out_t, out_f, argD, ite_self, List.map_cons, List.map_nil, List.append_nil, List.cons_append, List.nil_append, Bool.and_true, Bool.true_and, Bool.not_true, Bool.not_false, Bool.and_false, Bool.false_and, true_and, and_true, decide_eq_true_eq, Bool.false_eq_true, if_false, if_true, ite_true, ite_false, reduceIte, Bool.not_eq_true', v_mod hL, v_div ⟨hL, hL2⟩]
    rw [if_pos h]
    rfl
  · obtain ⟨c, hc, ec⟩ := cell_ok ns p
    have ecc : cap (scr ns) = scr ns := rfl
    have pw : gPow [.int 10, .int 9] = some (.int 1000000000) := by rfl
    by_cases h2 : 1000000000 ≤ c
    · refine ⟨c % L, p + 1, c / L, Int.emod_nonneg _ (by omega), Int.emod_lt_of_pos _ hL, Int.ediv_nonneg (by omega) (by omega), fn_go rfl ?_⟩
      show Go ev__law_take [some (stt ns p v), some (.int L), none, none] _
      simp only [ev__law_take, e_cst, e_nil, e_yes, e_var, e_fv, e_mv, e_cons, e_dfr, e_op, e_tup, e_lst, e_tr, e_notT, e_andT, e_orT, e_andV, e_orV, e_notV, e_opq, e_if, e_call, e_callM, e_chain, e_src, e_rng, e_lc, g_nx, g_retN, g_brk, g_cnt, g_seq, g_drop, g_ret, g_asg, g_if, g_for, g_app, g_set, kk_ok, kS_ok, kQ_nx, kQ_rt, kQ_bk, kQ_ct, has_some, sl_0, sl_s, st_0, st_s, v_add, v_sub, v_neg, v_lt, v_le, v_gt, v_ge, v_eqi, v_nei, v_is, v_isNot, v_len, v_lenT, v_abs, v_int, v_item, v_itemT, v_list, v_max, v_min, v_repr, blD_bl, truD_bl, truD_lst, isF_int, isF_bl, isF_non, isF_tup, isF_str, isF_lf, isF_lk, isF_lo, isF_ll, at_0, at_1, at_2, ix_0, ix_1, ix_2, cap_i, cap_t, noL_i, noL_n, noL_b, noL_t, ck_0, ck_s, lk_0, lk_1, lk_2, lk_3, lk_4, ln_0, ln_1, ln_2, ln_3, ln_4, own_o, own_l, own_f, its_o, its_l, its_f, lend_o, lend_i, lend_b, lend_n, lend_s, lend_t, cap_k, cap_f, lend_l, lend_f, sh_o, sh_l, sh_f, sh_k, Bool.or_true, Bool.true_or, Bool.or_false, Bool.false_or, intD, isLst, lstO, List.set_cons_zero, List.set_cons_succ, bind_S, forL_0, kL_nx, kL_ct, kL_bk, kL_rt, tg_n, tg_t, tg_0, tg_s, wp_0, wp_s, bk_0, bk_s, rd_0, rd_s, sb_a, sb_l, si_a, si_l, hd_0, out_t, out_f, argD, ite_self, List.map_cons, List.map_nil, List.append_nil, List.cons_append, List.nil_append, Bool.and_true, Bool.true_and, Bool.not_true, Bool.not_false, Bool.and_false, Bool.false_and, true_and, and_true, decide_eq_true_eq, Bool.false_eq_true, if_false, if_true, ite_true, ite_false, reduceIte, Bool.not_eq_true', v_mod hL, v_div ⟨hL, hL2⟩, ecc, ec, pw]
      rw [if_neg h]
      rw [if_pos h2]
      rfl
    · refine ⟨c % L, p + 1, v, Int.emod_nonneg _ (by omega), Int.emod_lt_of_pos _ hL, hv, fn_go rfl ?_⟩
      show Go ev__law_take [some (stt ns p v), some (.int L), none, none] _
      simp only [ev__law_take, e_cst, e_nil, e_yes, e_var, e_fv, e_mv, e_cons, e_dfr, e_op, e_tup, e_lst, e_tr, e_notT, e_andT, e_orT, e_andV, e_orV, e_notV, e_opq, e_if, e_call, e_callM, e_chain, e_src, e_rng, e_lc, g_nx, g_retN, g_brk, g_cnt, g_seq, g_drop, g_ret, g_asg, g_if, g_for, g_app, g_set, kk_ok, kS_ok, kQ_nx, kQ_rt, kQ_bk, kQ_ct, has_some, sl_0, sl_s, st_0, st_s, v_add, v_sub, v_neg, v_lt, v_le, v_gt, v_ge, v_eqi, v_nei, v_is, v_isNot, v_len, v_lenT, v_abs, v_int, v_item, v_itemT, v_list, v_max, v_min, v_repr, blD_bl, truD_bl, truD_lst, isF_int, isF_bl, isF_non, isF_tup, isF_str, isF_lf, isF_lk, isF_lo, isF_ll, at_0, at_1, at_2, ix_0, ix_1, ix_2, cap_i, cap_t, noL_i, noL_n, noL_b, noL_t, ck_0, ck_s, lk_0, lk_1, lk_2, lk_3, lk_4, ln_0, ln_1, ln_2, ln_3, ln_4, own_o, own_l, own_f, its_o, its_l, its_f, lend_o, lend_i, lend_b, lend_n, lend_s, lend_t, cap_k, cap_f, lend_l, lend_f, sh_o, sh_l, sh_f, sh_k, Bool.or_true, Bool.true_or, Bool.or_false, Bool.false_or, intD, isLst, lstO, List.set_cons_zero, List.set_cons_succ, bind_S, forL_0, kL_nx, kL_ct, kL_bk, kL_rt, tg_n, tg_t, tg_0, tg_s, wp_0, wp_s, bk_0, bk_s, rd_0, rd_s, sb_a, sb_l, si_a, si_l, hd_0, out_t, out_f, argD, ite_self, List.map_cons, List.map_nil, List.append_nil, List.cons_append, List.nil_append, Bool.and_true, Bool.true_and, Bool.not_true, Bool.not_false, Bool.and_false, Bool.false_and, true_and, and_true, decide_eq_true_eq, Bool.false_eq_true, if_false, if_true, ite_true, ite_false, reduceIte, Bool.not_eq_true', v_mod hL, v_div ⟨hL, hL2⟩, ecc, ec, pw]
      rw [if_neg h]
      rw [if_neg h2]
      rfl
/-! spans -/
abbrev Sp := List (Int × Int)
def pr (q : Int × Int) : D := .tup [.int q.1, .int q.2]
abbrev spD (m : Fl) (xs : Sp) : D := .lst m (xs.map pr)
abbrev miD (m : Fl) (xs : List Int) : D := .lst m (xs.map .int)
/-- lent or frozen -/
def RO (m : Fl) : Prop := shal m = true ∧ ∀ xs, owned (.lst m xs) = false
theorem RO.f : RO .f := ⟨rfl, fun _ => rfl⟩
theorem RO.l : RO .l := ⟨rfl, fun _ => rfl⟩
def inP (xs : Sp) (t : Int) : Bool := xs.any fun q => decide (q.1 ≤ t) && decide (t ≤ q.2)
def oi : Option Int → D
  | none => .non
  | some i => .int i
def nextP : Sp → Int → Option Int
  | [], _ => none
  | q :: r, t => if t ≤ q.2 then some (max q.1 t) else nextP r t
def lastP (a : Option Int) : Sp → Int → Option Int
  | [], _ => a
  | q :: r, t => lastP (if q.1 ≤ t then some (min q.2 t) else a) r t
theorem lp_inside {s : Option D} {t : Int} {K : ES → Prop} : ∀ (xs : Sp) (a b : Option D), (∀ a b, K (if inP xs t = true then (.rt (.bl true), [s, some (.int t), a, b]) else (.nx, [s, some (.int t), a, b]))) → has (evForL (tgTup [2, 3]) bd_inside_0 (xs.map pr) [s, some (.int t), a, b]) K
  | [], a, b, h => by simp only [e_cst, e_nil, e_yes, e_var, e_fv, e_mv, e_cons, e_dfr, e_op, e_tup, e_lst, e_tr, e_notT, e_andT, e_orT, e_andV, e_orV, e_notV, e_opq, e_if, e_call, e_callM, e_chain, e_src, e_rng, e_lc, g_nx, g_retN, g_brk, g_cnt, g_seq, g_drop, g_ret, g_asg, g_if, g_for, g_app, g_set, kk_ok, kS_ok, kQ_nx, kQ_rt, kQ_bk, kQ_ct, has_some, sl_0, sl_s, st_0, st_s, v_add, v_sub, v_neg, v_lt, v_le, v_gt, v_ge, v_eqi, v_nei, v_is, v_isNot, v_len, v_lenT, v_abs, v_int, v_item, v_itemT, v_list, v_max, v_min, v_repr, blD_bl, truD_bl, truD_lst, isF_int, isF_bl, isF_non, isF_tup, isF_str, isF_lf, isF_lk, isF_lo, isF_ll, at_0, at_1, at_2, ix_0, ix_1, ix_2, cap_i, cap_t, noL_i, noL_n, noL_b, noL_t, ck_0, ck_s, lk_0, lk_1, lk_2, lk_3, lk_4, ln_0, ln_1, ln_2, ln_3, ln_4, own_o, own_l, own_f, its_o, its_l, its_f, lend_o, lend_i, lend_b, lend_n, lend_s, lend_t, cap_k, cap_f, lend_l, lend_f, sh_o, sh_l, sh_f, sh_k, Bool.or_true, Bool.true_or, Bool.or_false, Bool.false_or, intD, isLst, lstO, List.set_cons_zero, List.set_cons_succ, bind_S, forL_0, kL_nx, kL_ct, kL_bk, kL_rt, tg_n, tg_t, tg_0, tg_s, wp_0, wp_s, bk_0, bk_s, rd_0, rd_s, sb_a, sb_l, si_a, si_l, hd_0, out_t, out_f, argD, ite_self, List.map_cons, List.map_nil, List.append_nil, List.cons_append, List.nil_append, Bool.and_true, Bool.true_and, Bool.not_true, Bool.not_false, Bool.and_false, Bool.false_and, true_and, and_true, decide_eq_true_eq, Bool.false_eq_true, if_false, if_true, ite_true, ite_false, reduceIte, Bool.not_eq_true']; exact h a b
  | q :: r, a, b, h => by
    have ih := lp_inside (s := s) (t := t) (K := K) r (some (.int q.1)) (some (.int q.2))
    have e : inP (q :: r) t = ((decide (q.1 ≤ t) && decide (t ≤ q.2)) || inP r t) := rfl
    simp only [List.map_cons, forL_s, pr, bd_inside_0, e_cst, e_nil, e_yes, e_var, e_fv, e_mv, e_cons, e_dfr, e_op, e_tup, e_lst, e_tr, e_notT, e_andT, e_orT, e_andV, e_orV, e_notV, e_opq, e_if, e_call, e_callM, e_chain, e_src, e_rng, e_lc, g_nx, g_retN, g_brk, g_cnt, g_seq, g_drop, g_ret, g_asg, g_if, g_for, g_app, g_set, kk_ok, kS_ok, kQ_nx, kQ_rt, kQ_bk, kQ_ct, has_some, sl_0, sl_s, st_0, st_s, v_add, v_sub, v_neg, v_lt, v_le, v_gt, v_ge, v_eqi, v_nei, v_is, v_isNot, v_len, v_lenT, v_abs, v_int, v_item, v_itemT, v_list, v_max, v_min, v_repr, blD_bl, truD_bl, truD_lst, isF_int, isF_bl, isF_non, isF_tup, isF_str, isF_lf, isF_lk, isF_lo, isF_ll, at_0, at_1, at_2, ix_0, ix_1, ix_2, cap_i, cap_t, noL_i, noL_n, noL_b, noL_t, ck_0, ck_s, lk_0, lk_1, lk_2, lk_3, lk_4, ln_0, ln_1, ln_2, ln_3, ln_4, own_o, own_l, own_f, its_o, its_l, its_f, lend_o, lend_i, lend_b, lend_n, lend_s, lend_t, cap_k, cap_f, lend_l, lend_f, sh_o, sh_l, sh_f, sh_k, Bool.or_true, Bool.true_or, Bool.or_false, Bool.false_or, intD, isLst, lstO, List.set_cons_zero, List.set_cons_succ, bind_S, forL_0, kL_nx, kL_ct, kL_bk, kL_rt, tg_n, tg_t, tg_0, tg_s, wp_0, wp_s, bk_0, bk_s, rd_0, rd_s, sb_a, sb_l, si_a, si_l, hd_0, out_t, out_f, argD, ite_self, List.map_cons, List.map_nil, List.append_nil, List.cons_append, List.nil_append, Bool.and_true, Bool.true_and, Bool.not_true, Bool.not_false, Bool.and_false, Bool.false_and, true_and, and_true, decide_eq_true_eq, Bool.false_eq_true, if_false, if_true, ite_true, ite_false, reduceIte, Bool.not_eq_true']
    by_cases h1 : q.1 ≤ t <;> by_cases h2 : t ≤ q.2 <;> simp only [h1, h2, e_cst, e_nil, e_yes, e_var, e_fv, e_mv, e_cons, e_dfr, e_op, e_tup, e_lst, e_tr, e_notT, e_andT, e_orT, e_andV, e_orV, e_notV, e_opq, e_if, e_call, e_callM, e_chain, e_src, e_rng, e_lc, g_nx, g_retN, g_brk, g_cnt, g_seq, g_drop, g_ret, g_asg, g_if, g_for, g_app, g_set, kk_ok, kS_ok, kQ_nx, kQ_rt, kQ_bk, kQ_ct, has_some, sl_0, sl_s, st_0, st_s, v_add, v_sub, v_neg, v_lt, v_le, v_gt, v_ge, v_eqi, v_nei, v_is, v_isNot, v_len, v_lenT, v_abs, v_int, v_item, v_itemT, v_list, v_max, v_min, v_repr, blD_bl, truD_bl, truD_lst, isF_int, isF_bl, isF_non, isF_tup, isF_str, isF_lf, isF_lk, isF_lo, isF_ll, at_0, at_1, at_2, ix_0, ix_1, ix_2, cap_i, cap_t, noL_i, noL_n, noL_b, noL_t, ck_0, ck_s, lk_0, lk_1, lk_2, lk_3, lk_4, ln_0, ln_1, ln_2, ln_3, ln_4, own_o, own_l, own_f, its_o, its_l, its_f, lend_o, lend_i, lend_b, lend_n, lend_s, lend_t, cap_k, cap_f, lend_l, lend_f, sh_o, sh_l, sh_f, sh_k, Bool.or_true, Bool.true_or, Bool.or_false, Bool.false_or, intD, isLst, lstO, List.set_cons_zero, List.set_cons_succ, bind_S, forL_0, kL_nx, kL_ct, kL_bk, kL_rt, tg_n, tg_t, tg_0, tg_s, wp_0, wp_s, bk_0, bk_s, rd_0, rd_s, sb_a, sb_l, si_a, si_l, hd_0, out_t, out_f, argD, ite_self, List.map_cons, List.map_nil, List.append_nil, List.cons_append, List.nil_append, Bool.and_true, Bool.true_and, Bool.not_true, Bool.not_false, Bool.and_false, Bool.false_and, true_and, and_true, decide_eq_true_eq, Bool.false_eq_true, if_false, if_true, ite_true, ite_false, reduceIte, Bool.not_eq_true'] <;> simp only [e, h1, h2, decide_true, decide_false, Bool.true_and, Bool.false_and, Bool.true_or, Bool.false_or, ite_true] at h
    · exact h _ _
    · exact ih h
    · exact ih h
    · exact ih h
theorem ok_inside {m : Fl} (hm : RO m) (xs : Sp) (t : Int) : F_inside [spD m xs, .int t] = some (.ok (.bl (inP xs t)), [none, none]) := by
  unfold F_inside
  refine fn_go rfl ?_
  show Go ev_inside [some (spD m xs), some (.int t), none, none] _
  simp only [ev_inside, e_cst, e_nil, e_yes, e_var, e_fv, e_mv, e_cons, e_dfr, e_op, e_tup, e_lst, e_tr, e_notT, e_andT, e_orT, e_andV, e_orV, e_notV, e_opq, e_if, e_call, e_callM, e_chain, e_src, e_rng, e_lc, g_nx, g_retN, g_brk, g_cnt, g_seq, g_drop, g_ret, g_asg, g_if, g_for, g_app, g_set, kk_ok, kS_ok, kQ_nx, kQ_rt, kQ_bk, kQ_ct, has_some, sl_0, sl_s, st_0, st_s, v_add, v_sub, v_neg, v_lt, v_le, v_gt, v_ge, v_eqi, v_nei, v_is, v_isNot, v_len, v_lenT, v_abs, v_int, v_item, v_itemT, v_list, v_max, v_min, v_repr, blD_bl, truD_bl, truD_lst, isF_int, isF_bl, isF_non, isF_tup, isF_str, isF_lf, isF_lk, isF_lo, isF_ll, at_0, at_1, at_2, ix_0, ix_1, ix_2, cap_i, cap_t, noL_i, noL_n, noL_b, noL_t, ck_0, ck_s, lk_0, lk_1, lk_2, lk_3, lk_4, ln_0, ln_1, ln_2, ln_3, ln_4, own_o, own_l, own_f, its_o, its_l, its_f, lend_o, lend_i, lend_b, lend_n, lend_s, lend_t, cap_k, cap_f, lend_l, lend_f, sh_o, sh_l, sh_f, sh_k, Bool.or_true, Bool.true_or, Bool.or_false, Bool.false_or, intD, isLst, lstO, List.set_cons_zero, List.set_cons_succ, bind_S, forL_0, kL_nx, kL_ct, kL_bk, kL_rt, tg_n, tg_t, tg_0, tg_s, wp_0, wp_s, bk_0, bk_s, rd_0, rd_s, sb_a, sb_l, si_a, si_l, hd_0, out_t, out_f, argD, ite_self, List.map_cons, List.map_nil, List.append_nil, List.cons_append, List.nil_append, Bool.and_true, Bool.true_and, Bool.not_true, Bool.not_false, Bool.and_false, Bool.false_and, true_and, and_true, decide_eq_true_eq, Bool.false_eq_true, if_false, if_true, ite_true, ite_false, reduceIte, Bool.not_eq_true', itemsOf_lst hm.1, hm.2]
  refine lp_inside xs none none fun a b => ?_
  cases inP xs t <;> simp only [e_cst, e_nil, e_yes, e_var, e_fv, e_mv, e_cons, e_dfr, e_op, e_tup, e_lst, e_tr, e_notT, e_andT, e_orT, e_andV, e_orV, e_notV, e_opq, e_if, e_call, e_callM, e_chain, e_src, e_rng, e_lc, g_nx, g_retN, g_brk, g_cnt, g_seq, g_drop, g_ret, g_asg, g_if, g_for, g_app, g_set, kk_ok, kS_ok, kQ_nx, kQ_rt, kQ_bk, kQ_ct, has_some, sl_0, sl_s, st_0, st_s, v_add, v_sub, v_neg, v_lt, v_le, v_gt, v_ge, v_eqi, v_nei, v_is, v_isNot, v_len, v_lenT, v_abs, v_int, v_item, v_itemT, v_list, v_max, v_min, v_repr, blD_bl, truD_bl, truD_lst, isF_int, isF_bl, isF_non, isF_tup, isF_str, isF_lf, isF_lk, isF_lo, isF_ll, at_0, at_1, at_2, ix_0, ix_1, ix_2, cap_i, cap_t, noL_i, noL_n, noL_b, noL_t, ck_0, ck_s, lk_0, lk_1, lk_2, lk_3, lk_4, ln_0, ln_1, ln_2, ln_3, ln_4, own_o, own_l, own_f, its_o, its_l, its_f, lend_o, lend_i, lend_b, lend_n, lend_s, lend_t, cap_k, cap_f, lend_l, lend_f, sh_o, sh_l, sh_f, sh_k, Bool.or_true, Bool.true_or, Bool.or_false, Bool.false_or, intD, isLst, lstO, List.set_cons_zero, List.set_cons_succ, bind_S, forL_0, kL_nx, kL_ct, kL_bk, kL_rt, tg_n, tg_t, tg_0, tg_s, wp_0, wp_s, bk_0, bk_s, rd_0, rd_s, sb_a, sb_l, si_a, si_l, hd_0, out_t, out_f, argD, ite_self, List.map_cons, List.map_nil, List.append_nil, List.cons_append, List.nil_append, Bool.and_true, Bool.true_and, Bool.not_true, Bool.not_false, Bool.and_false, Bool.false_and, true_and, and_true, decide_eq_true_eq, Bool.false_eq_true, if_false, if_true, ite_true, ite_false, reduceIte, Bool.not_eq_true'] <;> rfl
theorem lp_next {s : Option D} {t : Int} {K : ES → Prop} : ∀ (xs : Sp) (a b : Option D), (∀ a b, K (match nextP xs t with | some v => (.rt (.int v), [s, some (.int t), a, b]) | none => (.nx, [s, some (.int t), a, b]))) → has (evForL (tgTup [2, 3]) bd_next_in_0 (xs.map pr) [s, some (.int t), a, b]) K
  | [], a, b, h => by simp only [e_cst, e_nil, e_yes, e_var, e_fv, e_mv, e_cons, e_dfr, e_op, e_tup, e_lst, e_tr, e_notT, e_andT, e_orT, e_andV, e_orV, e_notV, e_opq, e_if, e_call, e_callM, e_chain, e_src, e_rng, e_lc, g_nx, g_retN, g_brk, g_cnt, g_seq, g_drop, g_ret, g_asg, g_if, g_for, g_app, g_set, kk_ok, kS_ok, kQ_nx, kQ_rt, kQ_bk, kQ_ct, has_some, sl_0, sl_s, st_0, st_s, v_add, v_sub, v_neg, v_lt, v_le, v_gt, v_ge, v_eqi, v_nei, v_is, v_isNot, v_len, v_lenT, v_abs, v_int, v_item, v_itemT, v_list, v_max, v_min, v_repr, blD_bl, truD_bl, truD_lst, isF_int, isF_bl, isF_non, isF_tup, isF_str, isF_lf, isF_lk, isF_lo, isF_ll, at_0, at_1, at_2, ix_0, ix_1, ix_2, cap_i, cap_t, noL_i, noL_n, noL_b, noL_t, ck_0, ck_s, lk_0, lk_1, lk_2, lk_3, lk_4, ln_0, ln_1, ln_2, ln_3, ln_4, own_o, own_l, own_f, its_o, its_l, its_f, lend_o, lend_i, lend_b, lend_n, lend_s, lend_t, cap_k, cap_f, lend_l, lend_f, sh_o, sh_l, sh_f, sh_k, Bool.or_true, Bool.true_or, Bool.or_false, Bool.false_or, intD, isLst, lstO, List.set_cons_zero, List.set_cons_succ, bind_S, forL_0, kL_nx, kL_ct, kL_bk, kL_rt, tg_n, tg_t, tg_0, tg_s, wp_0, wp_s, bk_0, bk_s, rd_0, rd_s, sb_a, sb_l, si_a, si_l, hd_0, out_t, out_f, argD, ite_self, List.map_cons, List.map_nil, List.append_nil, List.cons_append, List.nil_append, Bool.and_true, Bool.true_and, Bool.not_true, Bool.not_false, Bool.and_false, Bool.false_and, true_and, and_true, decide_eq_true_eq, Bool.false_eq_true, if_false, if_true, ite_true, ite_false, reduceIte, Bool.not_eq_true']; exact h a b
  | q :: r, a, b, h => by
    have ih := lp_next (s := s) (t := t) (K := K) r (some (.int q.1)) (some (.int q.2))
    simp only [List.map_cons, forL_s, pr, bd_next_in_0, e_cst, e_nil, e_yes, e_var, e_fv, e_mv, e_cons, e_dfr, e_op, e_tup, e_lst, e_tr, e_notT, e_andT, e_orT, e_andV, e_orV, e_notV, e_opq, e_if, e_call, e_callM, e_chain, e_src, e_rng, e_lc, g_nx, g_retN, g_brk, g_cnt, g_seq, g_drop, g_ret, g_asg, g_if, g_for, g_app, g_set, kk_ok, kS_ok, kQ_nx, kQ_rt, kQ_bk, kQ_ct, has_some, sl_0, sl_s, st_0, st_s, v_add, v_sub, v_neg, v_lt, v_le, v_gt, v_ge, v_eqi, v_nei, v_is, v_isNot, v_len, v_lenT, v_abs, v_int, v_item, v_itemT, v_list, v_max, v_min, v_repr, blD_bl, truD_bl, truD_lst, isF_int, isF_bl, isF_non, isF_tup, isF_str, isF_lf, isF_lk, isF_lo, isF_ll, at_0, at_1, at_2, ix_0, ix_1, ix_2, cap_i, cap_t, noL_i, noL_n, noL_b, noL_t, ck_0, ck_s, lk_0, lk_1, lk_2, lk_3, lk_4, ln_0, ln_1, ln_2, ln_3, ln_4, own_o, own_l, own_f, its_o, its_l, its_f, lend_o, lend_i, lend_b, lend_n, lend_s, lend_t, cap_k, cap_f, lend_l, lend_f, sh_o, sh_l, sh_f, sh_k, Bool.or_true, Bool.true_or, Bool.or_false, Bool.false_or, intD, isLst, lstO, List.set_cons_zero, List.set_cons_succ, bind_S, forL_0, kL_nx, kL_ct, kL_bk, kL_rt, tg_n, tg_t, tg_0, tg_s, wp_0, wp_s, bk_0, bk_s, rd_0, rd_s, sb_a, sb_l, si_a, si_l, hd_0, out_t, out_f, argD, ite_self, List.map_cons, List.map_nil, List.append_nil, List.cons_append, List.nil_append, Bool.and_true, Bool.true_and, Bool.not_true, Bool.not_false, Bool.and_false, Bool.false_and, true_and, and_true, decide_eq_true_eq, Bool.false_eq_true, if_false, if_true, ite_true, ite_false, reduceIte, Bool.not_eq_true']
    by_cases h1 : t ≤ q.2 <;> simp only [h1, e_cst, e_nil, e_yes, e_var, e_fv, e_mv, e_cons, e_dfr, e_op, e_tup, e_lst, e_tr, e_notT, e_andT, e_orT, e_andV, e_orV, e_notV, e_opq, e_if, e_call, e_callM, e_chain, e_src, e_rng, e_lc, g_nx, g_retN, g_brk, g_cnt, g_seq, g_drop, g_ret, g_asg, g_if, g_for, g_app, g_set, kk_ok, kS_ok, kQ_nx, kQ_rt, kQ_bk, kQ_ct, has_some, sl_0, sl_s, st_0, st_s, v_add, v_sub, v_neg, v_lt, v_le, v_gt, v_ge, v_eqi, v_nei, v_is, v_isNot, v_len, v_lenT, v_abs, v_int, v_item, v_itemT, v_list, v_max, v_min, v_repr, blD_bl, truD_bl, truD_lst, isF_int, isF_bl, isF_non, isF_tup, isF_str, isF_lf, isF_lk, isF_lo, isF_ll, at_0, at_1, at_2, ix_0, ix_1, ix_2, cap_i, cap_t, noL_i, noL_n, noL_b, noL_t, ck_0, ck_s, lk_0, lk_1, lk_2, lk_3, lk_4, ln_0, ln_1, ln_2, ln_3, ln_4, own_o, own_l, own_f, its_o, its_l, its_f, lend_o, lend_i, lend_b, lend_n, lend_s, lend_t, cap_k, cap_f, lend_l, lend_f, sh_o, sh_l, sh_f, sh_k, Bool.or_true, Bool.true_or, Bool.or_false, Bool.false_or, intD, isLst, lstO, List.set_cons_zero, List.set_cons_succ, bind_S, forL_0, kL_nx, kL_ct, kL_bk, kL_rt, tg_n, tg_t, tg_0, tg_s, wp_0, wp_s, bk_0, bk_s, rd_0, rd_s, sb_a, sb_l, si_a, si_l, hd_0, out_t, out_f, argD, ite_self, List.map_cons, List.map_nil, List.append_nil, List.cons_append, List.nil_append, Bool.and_true, Bool.true_and, Bool.not_true, Bool.not_false, Bool.and_false, Bool.false_and, true_and, and_true, decide_eq_true_eq, Bool.false_eq_true, if_false, if_true, ite_true, ite_false, reduceIte, Bool.not_eq_true'] <;> simp only [nextP, h1, ite_true, ite_false, if_true, if_false] at h
    · exact h _ _
    · exact ih h
theorem ok_next {m : Fl} (hm : RO m) (xs : Sp) (t : Int) : F_next_in [spD m xs, .int t] = some (.ok (oi (nextP xs t)), [none, none]) := by
  unfold F_next_in
  refine fn_go rfl ?_
  show Go ev_next_in [some (spD m xs), some (.int t), none, none] _
  simp only [ev_next_in, e_cst, e_nil, e_yes, e_var, e_fv, e_mv, e_cons, e_dfr, e_op, e_tup, e_lst, e_tr, e_notT, e_andT, e_orT, e_andV, e_orV, e_notV, e_opq, e_if, e_call, e_callM, e_chain, e_src, e_rng, e_lc, g_nx, g_retN, g_brk, g_cnt, g_seq, g_drop, g_ret, g_asg, g_if, g_for, g_app, g_set, kk_ok, kS_ok, kQ_nx, kQ_rt, kQ_bk, kQ_ct, has_some, sl_0, sl_s, st_0, st_s, v_add, v_sub, v_neg, v_lt, v_le, v_gt, v_ge, v_eqi, v_nei, v_is, v_isNot, v_len, v_lenT, v_abs, v_int, v_item, v_itemT, v_list, v_max, v_min, v_repr, blD_bl, truD_bl, truD_lst, isF_int, isF_bl, isF_non, isF_tup, isF_str, isF_lf, isF_lk, isF_lo, isF_ll, at_0, at_1, at_2, ix_0, ix_1, ix_2, cap_i, cap_t, noL_i, noL_n, noL_b, noL_t, ck_0, ck_s, lk_0, lk_1, lk_2, lk_3, lk_4, ln_0, ln_1, ln_2, ln_3, ln_4, own_o, own_l, own_f, its_o, its_l, its_f, lend_o, lend_i, lend_b, lend_n, lend_s, lend_t, cap_k, cap_f, lend_l, lend_f, sh_o, sh_l, sh_f, sh_k, Bool.or_true, Bool.true_or, Bool.or_false, Bool.false_or, intD, isLst, lstO, List.set_cons_zero, List.set_cons_succ, bind_S, forL_0, kL_nx, kL_ct, kL_bk, kL_rt, tg_n, tg_t, tg_0, tg_s, wp_0, wp_s, bk_0, bk_s, rd_0, rd_s, sb_a, sb_l, si_a, si_l, hd_0, out_t, out_f, argD, ite_self, List.map_cons, List.map_nil, List.append_nil, List.cons_append, List.nil_append, Bool.and_true, Bool.true_and, Bool.not_true, Bool.not_false, Bool.and_false, Bool.false_and, true_and, and_true, decide_eq_true_eq, Bool.false_eq_true, if_false, if_true, ite_true, ite_false, reduceIte, Bool.not_eq_true', itemsOf_lst hm.1, hm.2]
  refine lp_next xs none none fun a b => ?_
  cases nextP xs t <;> simp only [e_cst, e_nil, e_yes, e_var, e_fv, e_mv, e_cons, e_dfr, e_op, e_tup, e_lst, e_tr, e_notT, e_andT, e_orT, e_andV, e_orV, e_notV, e_opq, e_if, e_call, e_callM, e_chain, e_src, e_rng, e_lc, g_nx, g_retN, g_brk, g_cnt, g_seq, g_drop, g_ret, g_asg, g_if, g_for, g_app, g_set, kk_ok, kS_ok, kQ_nx, kQ_rt, kQ_bk, kQ_ct, has_some, sl_0, sl_s, st_0, st_s, v_add, v_sub, v_neg, v_lt, v_le, v_gt, v_ge, v_eqi, v_nei, v_is, v_isNot, v_len, v_lenT, v_abs, v_int, v_item, v_itemT, v_list, v_max, v_min, v_repr, blD_bl, truD_bl, truD_lst, isF_int, isF_bl, isF_non, isF_tup, isF_str, isF_lf, isF_lk, isF_lo, isF_ll, at_0, at_1, at_2, ix_0, ix_1, ix_2, cap_i, cap_t, noL_i, noL_n, noL_b, noL_t, ck_0, ck_s, lk_0, lk_1, lk_2, lk_3, lk_4, ln_0, ln_1, ln_2, ln_3, ln_4, own_o, own_l, own_f, its_o, its_l, its_f, lend_o, lend_i, lend_b, lend_n, lend_s, lend_t, cap_k, cap_f, lend_l, lend_f, sh_o, sh_l, sh_f, sh_k, Bool.or_true, Bool.true_or, Bool.or_false, Bool.false_or, intD, isLst, lstO, List.set_cons_zero, List.set_cons_succ, bind_S, forL_0, kL_nx, kL_ct, kL_bk, kL_rt, tg_n, tg_t, tg_0, tg_s, wp_0, wp_s, bk_0, bk_s, rd_0, rd_s, sb_a, sb_l, si_a, si_l, hd_0, out_t, out_f, argD, ite_self, List.map_cons, List.map_nil, List.append_nil, List.cons_append, List.nil_append, Bool.and_true, Bool.true_and, Bool.not_true, Bool.not_false, Bool.and_false, Bool.false_and, true_and, and_true, decide_eq_true_eq, Bool.false_eq_true, if_false, if_true, ite_true, ite_false, reduceIte, Bool.not_eq_true'] <;> rfl
theorem lp_last {s : Option D} {t : Int} {K : ES → Prop} : ∀ (xs : Sp) (f : Option Int) (a b : Option D), (∀ a b, K (.nx, [s, some (.int t), some (oi (lastP f xs t)), a, b])) → has (evForL (tgTup [3, 4]) bd_last_in_0 (xs.map pr) [s, some (.int t), some (oi f), a, b]) K
  | [], f, a, b, h => by simp only [e_cst, e_nil, e_yes, e_var, e_fv, e_mv, e_cons, e_dfr, e_op, e_tup, e_lst, e_tr, e_notT, e_andT, e_orT, e_andV, e_orV, e_notV, e_opq, e_if, e_call, e_callM, e_chain, e_src, e_rng, e_lc, g_nx, g_retN, g_brk, g_cnt, g_seq, g_drop, g_ret, g_asg, g_if, g_for, g_app, g_set, kk_ok, kS_ok, kQ_nx, kQ_rt, kQ_bk, kQ_ct, has_some, sl_0, sl_s, st_0, st_s, v_add, v_sub, v_neg, v_lt, v_le, v_gt, v_ge, v_eqi, v_nei, v_is, v_isNot, v_len, v_lenT, v_abs, v_int, v_item, v_itemT, v_list, v_max, v_min, v_repr, blD_bl, truD_bl, truD_lst, isF_int, isF_bl, isF_non, isF_tup, isF_str, isF_lf, isF_lk, isF_lo, isF_ll, at_0, at_1, at_2, ix_0, ix_1, ix_2, cap_i, cap_t, noL_i, noL_n, noL_b, noL_t, ck_0, ck_s, lk_0, lk_1, lk_2, lk_3, lk_4, ln_0, ln_1, ln_2, ln_3, ln_4, own_o, own_l, own_f, its_o, its_l, its_f, lend_o, lend_i, lend_b, lend_n, lend_s, lend_t, cap_k, cap_f, lend_l, lend_f, sh_o, sh_l, sh_f, sh_k, Bool.or_true, Bool.true_or, Bool.or_false, Bool.false_or, intD, isLst, lstO, List.set_cons_zero, List.set_cons_succ, bind_S, forL_0, kL_nx, kL_ct, kL_bk, kL_rt, tg_n, tg_t, tg_0, tg_s, wp_0, wp_s, bk_0, bk_s, rd_0, rd_s, sb_a, sb_l, si_a, si_l, hd_0, out_t, out_f, argD, ite_self, List.map_cons, List.map_nil, List.append_nil, List.cons_append, List.nil_append, Bool.and_true, Bool.true_and, Bool.not_true, Bool.not_false, Bool.and_false, Bool.false_and, true_and, and_true, decide_eq_true_eq, Bool.false_eq_true, if_false, if_true, ite_true, ite_false, reduceIte, Bool.not_eq_true']; exact h a b
  | q :: r, f, a, b, h => by
    simp only [List.map_cons, forL_s, pr, bd_last_in_0, e_cst, e_nil, e_yes, e_var, e_fv, e_mv, e_cons, e_dfr, e_op, e_tup, e_lst, e_tr, e_notT, e_andT, e_orT, e_andV, e_orV, e_notV, e_opq, e_if, e_call, e_callM, e_chain, e_src, e_rng, e_lc, g_nx, g_retN, g_brk, g_cnt, g_seq, g_drop, g_ret, g_asg, g_if, g_for, g_app, g_set, kk_ok, kS_ok, kQ_nx, kQ_rt, kQ_bk, kQ_ct, has_some, sl_0, sl_s, st_0, st_s, v_add, v_sub, v_neg, v_lt, v_le, v_gt, v_ge, v_eqi, v_nei, v_is, v_isNot, v_len, v_lenT, v_abs, v_int, v_item, v_itemT, v_list, v_max, v_min, v_repr, blD_bl, truD_bl, truD_lst, isF_int, isF_bl, isF_non, isF_tup, isF_str, isF_lf, isF_lk, isF_lo, isF_ll, at_0, at_1, at_2, ix_0, ix_1, ix_2, cap_i, cap_t, noL_i, noL_n, noL_b, noL_t, ck_0, ck_s, lk_0, lk_1, lk_2, lk_3, lk_4, ln_0, ln_1, ln_2, ln_3, ln_4, own_o, own_l, own_f, its_o, its_l, its_f, lend_o, lend_i, lend_b, lend_n, lend_s, lend_t, cap_k, cap_f, lend_l, lend_f, sh_o, sh_l, sh_f, sh_k, Bool.or_true, Bool.true_or, Bool.or_false, Bool.false_or, intD, isLst, lstO, List.set_cons_zero, List.set_cons_succ, bind_S, forL_0, kL_nx, kL_ct, kL_bk, kL_rt, tg_n, tg_t, tg_0, tg_s, wp_0, wp_s, bk_0, bk_s, rd_0, rd_s, sb_a, sb_l, si_a, si_l, hd_0, out_t, out_f, argD, ite_self, List.map_cons, List.map_nil, List.append_nil, List.cons_append, List.nil_append, Bool.and_true, Bool.true_and, Bool.not_true, Bool.not_false, Bool.and_false, Bool.false_and, true_and, and_true, decide_eq_true_eq, Bool.false_eq_true, if_false, if_true, ite_true, ite_false, reduceIte, Bool.not_eq_true']
    by_cases h1 : q.1 ≤ t <;> simp only [h1, e_cst, e_nil, e_yes, e_var, e_fv, e_mv, e_cons, e_dfr, e_op, e_tup, e_lst, e_tr, e_notT, e_andT, e_orT, e_andV, e_orV, e_notV, e_opq, e_if, e_call, e_callM, e_chain, e_src, e_rng, e_lc, g_nx, g_retN, g_brk, g_cnt, g_seq, g_drop, g_ret, g_asg, g_if, g_for, g_app, g_set, kk_ok, kS_ok, kQ_nx, kQ_rt, kQ_bk, kQ_ct, has_some, sl_0, sl_s, st_0, st_s, v_add, v_sub, v_neg, v_lt, v_le, v_gt, v_ge, v_eqi, v_nei, v_is, v_isNot, v_len, v_lenT, v_abs, v_int, v_item, v_itemT, v_list, v_max, v_min, v_repr, blD_bl, truD_bl, truD_lst, isF_int, isF_bl, isF_non, isF_tup, isF_str, isF_lf, isF_lk, isF_lo, isF_ll, at_0, at_1, at_2, ix_0, ix_1, ix_2, cap_i, cap_t, noL_i, noL_n, noL_b, noL_t, ck_0, ck_s, lk_0, lk_1, lk_2, lk_3, lk_4, ln_0, ln_1, ln_2, ln_3, ln_4, own_o, own_l, own_f, its_o, its_l, its_f, lend_o, lend_i, lend_b, lend_n, lend_s, lend_t, cap_k, cap_f, lend_l, lend_f, sh_o, sh_l, sh_f, sh_k, Bool.or_true, Bool.true_or, Bool.or_false, Bool.false_or, intD, isLst, lstO, List.set_cons_zero, List.set_cons_succ, bind_S, forL_0, kL_nx, kL_ct, kL_bk, kL_rt, tg_n, tg_t, tg_0, tg_s, wp_0, wp_s, bk_0, bk_s, rd_0, rd_s, sb_a, sb_l, si_a, si_l, hd_0, out_t, out_f, argD, ite_self, List.map_cons, List.map_nil, List.append_nil, List.cons_append, List.nil_append, Bool.and_true, Bool.true_and, Bool.not_true, Bool.not_false, Bool.and_false, Bool.false_and, true_and, and_true, decide_eq_true_eq, Bool.false_eq_true, if_false, if_true, ite_true, ite_false, reduceIte, Bool.not_eq_true'] <;> simp only [lastP, h1, ite_true, ite_false, if_true, if_false] at h
    · exact lp_last r (some (min q.2 t)) _ _ h
    · exact lp_last r f _ _ h
theorem noL_oi (o : Option Int) : noL (oi o) = true := by cases o <;> rfl
theorem ok_last {m : Fl} (hm : RO m) (xs : Sp) (t : Int) : F_last_in [spD m xs, .int t] = some (.ok (oi (lastP none xs t)), [none, none]) := by
  unfold F_last_in
  refine fn_go rfl ?_
  show Go ev_last_in [some (spD m xs), some (.int t), none, none, none] _
  simp only [ev_last_in, e_cst, e_nil, e_yes, e_var, e_fv, e_mv, e_cons, e_dfr, e_op, e_tup, e_lst, e_tr, e_notT, e_andT, e_orT, e_andV, e_orV, e_notV, e_opq, e_if, e_call, e_callM, e_chain, e_src, e_rng, e_lc, g_nx, g_retN, g_brk, g_cnt, g_seq, g_drop, g_ret, g_asg, g_if, g_for, g_app, g_set, kk_ok, kS_ok, kQ_nx, kQ_rt, kQ_bk, kQ_ct, has_some, sl_0, sl_s, st_0, st_s, v_add, v_sub, v_neg, v_lt, v_le, v_gt, v_ge, v_eqi, v_nei, v_is, v_isNot, v_len, v_lenT, v_abs, v_int, v_item, v_itemT, v_list, v_max, v_min, v_repr, blD_bl, truD_bl, truD_lst, isF_int, isF_bl, isF_non, isF_tup, isF_str, isF_lf, isF_lk, isF_lo, isF_ll, at_0, at_1, at_2, ix_0, ix_1, ix_2, cap_i, cap_t, noL_i, noL_n, noL_b, noL_t, ck_0, ck_s, lk_0, lk_1, lk_2, lk_3, lk_4, ln_0, ln_1, ln_2, ln_3, ln_4, own_o, own_l, own_f, its_o, its_l, its_f, lend_o, lend_i, lend_b, lend_n, lend_s, lend_t, cap_k, cap_f, lend_l, lend_f, sh_o, sh_l, sh_f, sh_k, Bool.or_true, Bool.true_or, Bool.or_false, Bool.false_or, intD, isLst, lstO, List.set_cons_zero, List.set_cons_succ, bind_S, forL_0, kL_nx, kL_ct, kL_bk, kL_rt, tg_n, tg_t, tg_0, tg_s, wp_0, wp_s, bk_0, bk_s, rd_0, rd_s, sb_a, sb_l, si_a, si_l, hd_0, out_t, out_f, argD, ite_self, List.map_cons, List.map_nil, List.append_nil, List.cons_append, List.nil_append, Bool.and_true, Bool.true_and, Bool.not_true, Bool.not_false, Bool.and_false, Bool.false_and, true_and, and_true, decide_eq_true_eq, Bool.false_eq_true, if_false, if_true, ite_true, ite_false, reduceIte, Bool.not_eq_true', itemsOf_lst hm.1, hm.2]
  refine lp_last xs none none none fun a b => ?_
  simp only [e_cst, e_nil, e_yes, e_var, e_fv, e_mv, e_cons, e_dfr, e_op, e_tup, e_lst, e_tr, e_notT, e_andT, e_orT, e_andV, e_orV, e_notV, e_opq, e_if, e_call, e_callM, e_chain, e_src, e_rng, e_lc, g_nx, g_retN, g_brk, g_cnt, g_seq, g_drop, g_ret, g_asg, g_if, g_for, g_app, g_set, kk_ok, kS_ok, kQ_nx, kQ_rt, kQ_bk, kQ_ct, has_some, sl_0, sl_s, st_0, st_s, v_add, v_sub, v_neg, v_lt, v_le, v_gt, v_ge, v_eqi, v_nei, v_is, v_isNot, v_len, v_lenT, v_abs, v_int, v_item, v_itemT, v_list, v_max, v_min, v_repr, blD_bl, truD_bl, truD_lst, isF_int, isF_bl, isF_non, isF_tup, isF_str, isF_lf, isF_lk, isF_lo, isF_ll, at_0, at_1, at_2, ix_0, ix_1, ix_2, cap_i, cap_t, noL_i, noL_n, noL_b, noL_t, ck_0, ck_s, lk_0, lk_1, lk_2, lk_3, lk_4, ln_0, ln_1, ln_2, ln_3, ln_4, own_o, own_l, own_f, its_o, its_l, its_f, lend_o, lend_i, lend_b, lend_n, lend_s, lend_t, cap_k, cap_f, lend_l, lend_f, sh_o, sh_l, sh_f, sh_k, Bool.or_true, Bool.true_or, Bool.or_false, Bool.false_or, intD, isLst, lstO, List.set_cons_zero, List.set_cons_succ, bind_S, forL_0, kL_nx, kL_ct, kL_bk, kL_rt, tg_n, tg_t, tg_0, tg_s, wp_0, wp_s, bk_0, bk_s, rd_0, rd_s, sb_a, sb_l, si_a, si_l, hd_0, out_t, out_f, argD, ite_self, List.map_cons, List.map_nil, List.append_nil, List.cons_append, List.nil_append, Bool.and_true, Bool.true_and, Bool.not_true, Bool.not_false, Bool.and_false, Bool.false_and, true_and, and_true, decide_eq_true_eq, Bool.false_eq_true, if_false, if_true, ite_true, ite_false, reduceIte, Bool.not_eq_true', noL_oi]
  rfl
/-! meet -/
def meetIn (b e : Int) : Sp → Sp
  | [] => []
  | q :: r => (if max b q.1 ≤ min e q.2 then [(max b q.1, min e q.2)] else []) ++ meetIn b e r
def meetP : Sp → Sp → Sp
  | [], _ => []
  | q :: r, o => meetIn q.1 q.2 o ++ meetP r o
theorem meetIn_len (b e : Int) : ∀ xs, (meetIn b e xs).length ≤ xs.length
  | [] => Nat.le_refl _
  | q :: r => by
    have := meetIn_len b e r
    rw [meetIn]
    split <;> simp <;> omega
theorem snoc (acc : Sp) (x y : Int) : acc.map pr ++ [D.tup [.int x, .int y]] = (acc ++ [(x, y)]).map pr := by rw [List.map_append]; rfl
theorem lp_meet0 {s0 s1 : Option D} {b e : Int} {K : ES → Prop} : ∀ (xs acc : Sp) (a5 a6 a7 a8 : Option D), acc.length + xs.length ≤ 900000 → (∀ a5 a6 a7 a8, K (.nx, [s0, s1, some (spD .o (acc ++ meetIn b e xs)), some (.int b), some (.int e), a5, a6, a7, a8])) →
    has (evForL (tgTup [5, 6]) bd_meet_spans_0 (xs.map pr) [s0, s1, some (spD .o acc), some (.int b), some (.int e), a5, a6, a7, a8]) K
  | [], acc, a5, a6, a7, a8, hl, h => by simp only [e_cst, e_nil, e_yes, e_var, e_fv, e_mv, e_cons, e_dfr, e_op, e_tup, e_lst, e_tr, e_notT, e_andT, e_orT, e_andV, e_orV, e_notV, e_opq, e_if, e_call, e_callM, e_chain, e_src, e_rng, e_lc, g_nx, g_retN, g_brk, g_cnt, g_seq, g_drop, g_ret, g_asg, g_if, g_for, g_app, g_set, kk_ok, kS_ok, kQ_nx, kQ_rt, kQ_bk, kQ_ct, has_some, sl_0, sl_s, st_0, st_s, v_add, v_sub, v_neg, v_lt, v_le, v_gt, v_ge, v_eqi, v_nei, v_is, v_isNot, v_len, v_lenT, v_abs, v_int, v_item, v_itemT, v_list, v_max, v_min, v_repr, blD_bl, truD_bl, truD_lst, isF_int, isF_bl, isF_non, isF_tup, isF_str, isF_lf, isF_lk, isF_lo, isF_ll, at_0, at_1, at_2, ix_0, ix_1, ix_2, cap_i, cap_t, noL_i, noL_n, noL_b, noL_t, ck_0, ck_s, lk_0, lk_1, lk_2, lk_3, lk_4, ln_0, ln_1, ln_2, ln_3, ln_4, own_o, own_l, own_f, its_o, its_l, its_f, lend_o, lend_i, lend_b, lend_n, lend_s, lend_t, cap_k, cap_f, lend_l, lend_f, sh_o, sh_l, sh_f, sh_k, Bool.or_true, Bool.true_or, Bool.or_false, Bool.false_or, intD, isLst, lstO, List.set_cons_zero, List.set_cons_succ, bind_S, forL_0, kL_nx, kL_ct, kL_bk, kL_rt, tg_n, tg_t, tg_0, tg_s, wp_0, wp_s, bk_0, bk_s, rd_0, rd_s, sb_a, sb_l, si_a, si_l, hd_0, out_t, out_f, argD, ite_self, List.map_cons, List.map_nil, List.append_nil, List.cons_append, List.nil_append, Bool.and_true, Bool.true_and, Bool.not_true, Bool.not_false, Bool.and_false, Bool.false_and, true_and, and_true, decide_eq_true_eq, Bool.false_eq_true, if_false, if_true, ite_true, ite_false, reduceIte, Bool.not_eq_true']; simp only [meetIn, List.append_nil] at h; exact h _ _ _ _
  | q :: r, acc, a5, a6, a7, a8, hl, h => by
    simp only [List.length_cons] at hl
    have hl2 : (acc.map pr).length < 1000000 := by rw [List.length_map]; omega
    simp only [List.map_cons, forL_s, pr, bd_meet_spans_0, e_cst, e_nil, e_yes, e_var, e_fv, e_mv, e_cons, e_dfr, e_op, e_tup, e_lst, e_tr, e_notT, e_andT, e_orT, e_andV, e_orV, e_notV, e_opq, e_if, e_call, e_callM, e_chain, e_src, e_rng, e_lc, g_nx, g_retN, g_brk, g_cnt, g_seq, g_drop, g_ret, g_asg, g_if, g_for, g_app, g_set, kk_ok, kS_ok, kQ_nx, kQ_rt, kQ_bk, kQ_ct, has_some, sl_0, sl_s, st_0, st_s, v_add, v_sub, v_neg, v_lt, v_le, v_gt, v_ge, v_eqi, v_nei, v_is, v_isNot, v_len, v_lenT, v_abs, v_int, v_item, v_itemT, v_list, v_max, v_min, v_repr, blD_bl, truD_bl, truD_lst, isF_int, isF_bl, isF_non, isF_tup, isF_str, isF_lf, isF_lk, isF_lo, isF_ll, at_0, at_1, at_2, ix_0, ix_1, ix_2, cap_i, cap_t, noL_i, noL_n, noL_b, noL_t, ck_0, ck_s, lk_0, lk_1, lk_2, lk_3, lk_4, ln_0, ln_1, ln_2, ln_3, ln_4, own_o, own_l, own_f, its_o, its_l, its_f, lend_o, lend_i, lend_b, lend_n, lend_s, lend_t, cap_k, cap_f, lend_l, lend_f, sh_o, sh_l, sh_f, sh_k, Bool.or_true, Bool.true_or, Bool.or_false, Bool.false_or, intD, isLst, lstO, List.set_cons_zero, List.set_cons_succ, bind_S, forL_0, kL_nx, kL_ct, kL_bk, kL_rt, tg_n, tg_t, tg_0, tg_s, wp_0, wp_s, bk_0, bk_s, rd_0, rd_s, sb_a, sb_l, si_a, si_l, hd_0, out_t, out_f, argD, ite_self, List.map_cons, List.map_nil, List.append_nil, List.cons_append, List.nil_append, Bool.and_true, Bool.true_and, Bool.not_true, Bool.not_false, Bool.and_false, Bool.false_and, true_and, and_true, decide_eq_true_eq, Bool.false_eq_true, if_false, if_true, ite_true, ite_false, reduceIte, Bool.not_eq_true']
    by_cases h1 : max b q.1 ≤ min e q.2 <;> simp only [h1, e_cst, e_nil, e_yes, e_var, e_fv, e_mv, e_cons, e_dfr, e_op, e_tup, e_lst, e_tr, e_notT, e_andT, e_orT, e_andV, e_orV, e_notV, e_opq, e_if, e_call, e_callM, e_chain, e_src, e_rng, e_lc, g_nx, g_retN, g_brk, g_cnt, g_seq, g_drop, g_ret, g_asg, g_if, g_for, g_app, g_set, kk_ok, kS_ok, kQ_nx, kQ_rt, kQ_bk, kQ_ct, has_some, sl_0, sl_s, st_0, st_s, v_add, v_sub, v_neg, v_lt, v_le, v_gt, v_ge, v_eqi, v_nei, v_is, v_isNot, v_len, v_lenT, v_abs, v_int, v_item, v_itemT, v_list, v_max, v_min, v_repr, blD_bl, truD_bl, truD_lst, isF_int, isF_bl, isF_non, isF_tup, isF_str, isF_lf, isF_lk, isF_lo, isF_ll, at_0, at_1, at_2, ix_0, ix_1, ix_2, cap_i, cap_t, noL_i, noL_n, noL_b, noL_t, ck_0, ck_s, lk_0, lk_1, lk_2, lk_3, lk_4, ln_0, ln_1, ln_2, ln_3, ln_4, own_o, own_l, own_f, its_o, its_l, its_f, lend_o, lend_i, lend_b, lend_n, lend_s, lend_t, cap_k, cap_f, lend_l, lend_f, sh_o, sh_l, sh_f, sh_k, Bool.or_true, Bool.true_or, Bool.or_false, Bool.false_or, intD, isLst, lstO, List.set_cons_zero, List.set_cons_succ, bind_S, forL_0, kL_nx, kL_ct, kL_bk, kL_rt, tg_n, tg_t, tg_0, tg_s, wp_0, wp_s, bk_0, bk_s, rd_0, rd_s, sb_a, sb_l, si_a, si_l, hd_0, out_t, out_f, argD, ite_self, List.map_cons, List.map_nil, List.append_nil, List.cons_append, List.nil_append, Bool.and_true, Bool.true_and, Bool.not_true, Bool.not_false, Bool.and_false, Bool.false_and, true_and, and_true, decide_eq_true_eq, Bool.false_eq_true, if_false, if_true, ite_true, ite_false, reduceIte, Bool.not_eq_true'] <;> simp only [meetIn, h1, ite_true, ite_false, if_true, if_false, List.nil_append] at h
    · refine ⟨hl2, ?_⟩
      rw [snoc]
      refine lp_meet0 r (acc ++ [(max b q.1, min e q.2)]) _ _ _ _ (by simp; omega) ?_
      simpa using h
    · exact lp_meet0 r acc _ _ _ _ (by omega) h
theorem lp_meet1 {s0 : Option D} {m : Fl} (hm : RO m) {o : Sp} {K : ES → Prop} : ∀ (xs acc : Sp) (a3 a4 a5 a6 a7 a8 : Option D), acc.length + xs.length * o.length ≤ 900000 → (∀ a3 a4 a5 a6 a7 a8, K (.nx, [s0, some (spD m o), some (spD .o (acc ++ meetP xs o)), a3, a4, a5, a6, a7, a8])) →
    has (evForL (tgTup [3, 4]) bd_meet_spans_1 (xs.map pr) [s0, some (spD m o), some (spD .o acc), a3, a4, a5, a6, a7, a8]) K
  | [], acc, a3, a4, a5, a6, a7, a8, hl, h => by simp only [e_cst, e_nil, e_yes, e_var, e_fv, e_mv, e_cons, e_dfr, e_op, e_tup, e_lst, e_tr, e_notT, e_andT, e_orT, e_andV, e_orV, e_notV, e_opq, e_if, e_call, e_callM, e_chain, e_src, e_rng, e_lc, g_nx, g_retN, g_brk, g_cnt, g_seq, g_drop, g_ret, g_asg, g_if, g_for, g_app, g_set, kk_ok, kS_ok, kQ_nx, kQ_rt, kQ_bk, kQ_ct, has_some, sl_0, sl_s, st_0, st_s, v_add, v_sub, v_neg, v_lt, v_le, v_gt, v_ge, v_eqi, v_nei, v_is, v_isNot, v_len, v_lenT, v_abs, v_int, v_item, v_itemT, v_list, v_max, v_min, v_repr, blD_bl, truD_bl, truD_lst, isF_int, isF_bl, isF_non, isF_tup, isF_str, isF_lf, isF_lk, isF_lo, isF_ll, at_0, at_1, at_2, ix_0, ix_1, ix_2, cap_i, cap_t, noL_i, noL_n, noL_b, noL_t, ck_0, ck_s, lk_0, lk_1, lk_2, lk_3, lk_4, ln_0, ln_1, ln_2, ln_3, ln_4, own_o, own_l, own_f, its_o, its_l, its_f, lend_o, lend_i, lend_b, lend_n, lend_s, lend_t, cap_k, cap_f, lend_l, lend_f, sh_o, sh_l, sh_f, sh_k, Bool.or_true, Bool.true_or, Bool.or_false, Bool.false_or, intD, isLst, lstO, List.set_cons_zero, List.set_cons_succ, bind_S, forL_0, kL_nx, kL_ct, kL_bk, kL_rt, tg_n, tg_t, tg_0, tg_s, wp_0, wp_s, bk_0, bk_s, rd_0, rd_s, sb_a, sb_l, si_a, si_l, hd_0, out_t, out_f, argD, ite_self, List.map_cons, List.map_nil, List.append_nil, List.cons_append, List.nil_append, Bool.and_true, Bool.true_and, Bool.not_true, Bool.not_false, Bool.and_false, Bool.false_and, true_and, and_true, decide_eq_true_eq, Bool.false_eq_true, if_false, if_true, ite_true, ite_false, reduceIte, Bool.not_eq_true']; simp only [meetP, List.append_nil] at h; exact h _ _ _ _ _ _
  | q :: r, acc, a3, a4, a5, a6, a7, a8, hl, h => by
    simp only [List.length_cons, Nat.succ_mul] at hl
    simp only [List.map_cons, forL_s, pr, bd_meet_spans_1, e_cst, e_nil, e_yes, e_var, e_fv, e_mv, e_cons, e_dfr, e_op, e_tup, e_lst, e_tr, e_notT, e_andT, e_orT, e_andV, e_orV, e_notV, e_opq, e_if, e_call, e_callM, e_chain, e_src, e_rng, e_lc, g_nx, g_retN, g_brk, g_cnt, g_seq, g_drop, g_ret, g_asg, g_if, g_for, g_app, g_set, kk_ok, kS_ok, kQ_nx, kQ_rt, kQ_bk, kQ_ct, has_some, sl_0, sl_s, st_0, st_s, v_add, v_sub, v_neg, v_lt, v_le, v_gt, v_ge, v_eqi, v_nei, v_is, v_isNot, v_len, v_lenT, v_abs, v_int, v_item, v_itemT, v_list, v_max, v_min, v_repr, blD_bl, truD_bl, truD_lst, isF_int, isF_bl, isF_non, isF_tup, isF_str, isF_lf, isF_lk, isF_lo, isF_ll, at_0, at_1, at_2, ix_0, ix_1, ix_2, cap_i, cap_t, noL_i, noL_n, noL_b, noL_t, ck_0, ck_s, lk_0, lk_1, lk_2, lk_3, lk_4, ln_0, ln_1, ln_2, ln_3, ln_4, own_o, own_l, own_f, its_o, its_l, its_f, lend_o, lend_i, lend_b, lend_n, lend_s, lend_t, cap_k, cap_f, lend_l, lend_f, sh_o, sh_l, sh_f, sh_k, Bool.or_true, Bool.true_or, Bool.or_false, Bool.false_or, intD, isLst, lstO, List.set_cons_zero, List.set_cons_succ, bind_S, forL_0, kL_nx, kL_ct, kL_bk, kL_rt, tg_n, tg_t, tg_0, tg_s, wp_0, wp_s, bk_0, bk_s, rd_0, rd_s, sb_a, sb_l, si_a, si_l, hd_0, out_t, out_f, argD, ite_self, List.map_cons, List.map_nil, List.append_nil, List.cons_append, List.nil_append, Bool.and_true, Bool.true_and, Bool.not_true, Bool.not_false, Bool.and_false, Bool.false_and, true_and, and_true, decide_eq_true_eq, Bool.false_eq_true, if_false, if_true, ite_true, ite_false, reduceIte, Bool.not_eq_true', itemsOf_lst hm.1, hm.2]
    refine lp_meet0 o acc _ _ _ _ (by omega) fun a5 a6 a7 a8 => ?_
    simp only [e_cst, e_nil, e_yes, e_var, e_fv, e_mv, e_cons, e_dfr, e_op, e_tup, e_lst, e_tr, e_notT, e_andT, e_orT, e_andV, e_orV, e_notV, e_opq, e_if, e_call, e_callM, e_chain, e_src, e_rng, e_lc, g_nx, g_retN, g_brk, g_cnt, g_seq, g_drop, g_ret, g_asg, g_if, g_for, g_app, g_set, kk_ok, kS_ok, kQ_nx, kQ_rt, kQ_bk, kQ_ct, has_some, sl_0, sl_s, st_0, st_s, v_add, v_sub, v_neg, v_lt, v_le, v_gt, v_ge, v_eqi, v_nei, v_is, v_isNot, v_len, v_lenT, v_abs, v_int, v_item, v_itemT, v_list, v_max, v_min, v_repr, blD_bl, truD_bl, truD_lst, isF_int, isF_bl, isF_non, isF_tup, isF_str, isF_lf, isF_lk, isF_lo, isF_ll, at_0, at_1, at_2, ix_0, ix_1, ix_2, cap_i, cap_t, noL_i, noL_n, noL_b, noL_t, ck_0, ck_s, lk_0, lk_1, lk_2, lk_3, lk_4, ln_0, ln_1, ln_2, ln_3, ln_4, own_o, own_l, own_f, its_o, its_l, its_f, lend_o, lend_i, lend_b, lend_n, lend_s, lend_t, cap_k, cap_f, lend_l, lend_f, sh_o, sh_l, sh_f, sh_k, Bool.or_true, Bool.true_or, Bool.or_false, Bool.false_or, intD, isLst, lstO, List.set_cons_zero, List.set_cons_succ, bind_S, forL_0, kL_nx, kL_ct, kL_bk, kL_rt, tg_n, tg_t, tg_0, tg_s, wp_0, wp_s, bk_0, bk_s, rd_0, rd_s, sb_a, sb_l, si_a, si_l, hd_0, out_t, out_f, argD, ite_self, List.map_cons, List.map_nil, List.append_nil, List.cons_append, List.nil_append, Bool.and_true, Bool.true_and, Bool.not_true, Bool.not_false, Bool.and_false, Bool.false_and, true_and, and_true, decide_eq_true_eq, Bool.false_eq_true, if_false, if_true, ite_true, ite_false, reduceIte, Bool.not_eq_true']
    refine lp_meet1 hm r (acc ++ meetIn q.1 q.2 o) _ _ _ _ _ _ ?_ ?_
    · have := meetIn_len q.1 q.2 o
      simp only [List.length_append]; omega
    · simpa only [meetP, List.append_assoc] using h
theorem ok_meet {m n : Fl} (hm : RO m) (hn : RO n) (xs o : Sp) (hl : xs.length * o.length ≤ 900000) : F_meet_spans [spD m xs, spD n o] = some (.ok (spD .o (meetP xs o)), [none, none]) := by
  unfold F_meet_spans
  refine fn_go rfl ?_
  show Go ev_meet_spans [some (spD m xs), some (spD n o), none, none, none, none, none, none, none] _
  simp only [ev_meet_spans, e_cst, e_nil, e_yes, e_var, e_fv, e_mv, e_cons, e_dfr, e_op, e_tup, e_lst, e_tr, e_notT, e_andT, e_orT, e_andV, e_orV, e_notV, e_opq, e_if, e_call, e_callM, e_chain, e_src, e_rng, e_lc, g_nx, g_retN, g_brk, g_cnt, g_seq, g_drop, g_ret, g_asg, g_if, g_for, g_app, g_set, kk_ok, kS_ok, kQ_nx, kQ_rt, kQ_bk, kQ_ct, has_some, sl_0, sl_s, st_0, st_s, v_add, v_sub, v_neg, v_lt, v_le, v_gt, v_ge, v_eqi, v_nei, v_is, v_isNot, v_len, v_lenT, v_abs, v_int, v_item, v_itemT, v_list, v_max, v_min, v_repr, blD_bl, truD_bl, truD_lst, isF_int, isF_bl, isF_non, isF_tup, isF_str, isF_lf, isF_lk, isF_lo, isF_ll, at_0, at_1, at_2, ix_0, ix_1, ix_2, cap_i, cap_t, noL_i, noL_n, noL_b, noL_t, ck_0, ck_s, lk_0, lk_1, lk_2, lk_3, lk_4, ln_0, ln_1, ln_2, ln_3, ln_4, own_o, own_l, own_f, its_o, its_l, its_f, lend_o, lend_i, lend_b, lend_n, lend_s, lend_t, cap_k, cap_f, lend_l, lend_f, sh_o, sh_l, sh_f, sh_k, Bool.or_true, Bool.true_or, Bool.or_false, Bool.false_or, intD, isLst, lstO, List.set_cons_zero, List.set_cons_succ, bind_S, forL_0, kL_nx, kL_ct, kL_bk, kL_rt, tg_n, tg_t, tg_0, tg_s, wp_0, wp_s, bk_0, bk_s, rd_0, rd_s, sb_a, sb_l, si_a, si_l, hd_0, out_t, out_f, argD, ite_self, List.map_cons, List.map_nil, List.append_nil, List.cons_append, List.nil_append, Bool.and_true, Bool.true_and, Bool.not_true, Bool.not_false, Bool.and_false, Bool.false_and, true_and, and_true, decide_eq_true_eq, Bool.false_eq_true, if_false, if_true, ite_true, ite_false, reduceIte, Bool.not_eq_true', itemsOf_lst hm.1, hm.2]
  refine lp_meet1 hn xs [] _ _ _ _ _ _ (by simpa using hl) fun _ _ _ _ _ _ => ?_
  simp only [e_cst, e_nil, e_yes, e_var, e_fv, e_mv, e_cons, e_dfr, e_op, e_tup, e_lst, e_tr, e_notT, e_andT, e_orT, e_andV, e_orV, e_notV, e_opq, e_if, e_call, e_callM, e_chain, e_src, e_rng, e_lc, g_nx, g_retN, g_brk, g_cnt, g_seq, g_drop, g_ret, g_asg, g_if, g_for, g_app, g_set, kk_ok, kS_ok, kQ_nx, kQ_rt, kQ_bk, kQ_ct, has_some, sl_0, sl_s, st_0, st_s, v_add, v_sub, v_neg, v_lt, v_le, v_gt, v_ge, v_eqi, v_nei, v_is, v_isNot, v_len, v_lenT, v_abs, v_int, v_item, v_itemT, v_list, v_max, v_min, v_repr, blD_bl, truD_bl, truD_lst, isF_int, isF_bl, isF_non, isF_tup, isF_str, isF_lf, isF_lk, isF_lo, isF_ll, at_0, at_1, at_2, ix_0, ix_1, ix_2, cap_i, cap_t, noL_i, noL_n, noL_b, noL_t, ck_0, ck_s, lk_0, lk_1, lk_2, lk_3, lk_4, ln_0, ln_1, ln_2, ln_3, ln_4, own_o, own_l, own_f, its_o, its_l, its_f, lend_o, lend_i, lend_b, lend_n, lend_s, lend_t, cap_k, cap_f, lend_l, lend_f, sh_o, sh_l, sh_f, sh_k, Bool.or_true, Bool.true_or, Bool.or_false, Bool.false_or, intD, isLst, lstO, List.set_cons_zero, List.set_cons_succ, bind_S, forL_0, kL_nx, kL_ct, kL_bk, kL_rt, tg_n, tg_t, tg_0, tg_s, wp_0, wp_s, bk_0, bk_s, rd_0, rd_s, sb_a, sb_l, si_a, si_l, hd_0, out_t, out_f, argD, ite_self, List.map_cons, List.map_nil, List.append_nil, List.cons_append, List.nil_append, Bool.and_true, Bool.true_and, Bool.not_true, Bool.not_false, Bool.and_false, Bool.false_and, true_and, and_true, decide_eq_true_eq, Bool.false_eq_true, if_false, if_true, ite_true, ite_false, reduceIte, Bool.not_eq_true']
  exact ⟨rfl, rfl⟩
/-! tidy -/
def leP (a b : Int × Int) : Bool := decide (a.1 < b.1 ∨ (a.1 = b.1 ∧ a.2 ≤ b.2))
def sortP (xs : Sp) : Sp := xs.mergeSort leP
def leI (a b : Int) : Bool := decide (a ≤ b)
def sortI (xs : List Int) : List Int := xs.mergeSort leI
theorem dp_p (n : Nat) (q : Int × Int) : dp (n + 1) (pr q) = true := by simp [pr, dp, dpL]
theorem sorted_p {m : Fl} (hm : shal m = true) (xs : Sp) (hl : xs.length ≤ 1000000) : gSorted [spD m xs] = some (spD .o (sortP xs)) :=
  v_sorted hm hl (fun a b => leD_p a b) (fun a => dp_p 59 a) (fun a b => by simp [pr, toP, toPL, W.alike, W.alikeAll]) (.inl fun a => by simp [pr, toP, toPL, tup1])
theorem sorted_i {m : Fl} (hm : shal m = true) (xs : List Int) (hl : xs.length ≤ 1000000) : gSorted [miD m xs] = some (miD .o (sortI xs)) :=
  v_sorted hm hl (fun a b => leD_i a b) (fun a => by simp [dp]) (fun a b => by simp [toP, W.alike]) (.inr fun a => by simp [toP, noTup])
def tidyL (c : Int × Int) : Sp → Sp
  | [] => [c]
  | q :: r => if q.1 ≤ c.2 + 1 then tidyL (c.1, max c.2 q.2) r else c :: tidyL q r
def tidyR : Sp → Sp
  | [] => []
  | q :: r => tidyL q r
def tidyP (xs : Sp) : Sp := tidyR (sortP xs)
theorem lp_tidy {s0 : Option D} {K : ES → Prop} : ∀ (xs pre : Sp) (c : Int × Int) (a2 a3 : Option D), pre.length + xs.length ≤ 900000 → (∀ a2 a3, K (.nx, [s0, some (spD .o (pre ++ tidyL c xs)), a2, a3])) →
    has (evForL (tgTup [2, 3]) bd_tidy_0 (xs.map pr) [s0, some (.lst .o (pre.map pr ++ [.tup [.int c.1, .int c.2]])), a2, a3]) K
  | [], pre, c, a2, a3, hl, h => by
    simp only [e_cst, e_nil, e_yes, e_var, e_fv, e_mv, e_cons, e_dfr, e_op, e_tup, e_lst, e_tr, e_notT, e_andT, e_orT, e_andV, e_orV, e_notV, e_opq, e_if, e_call, e_callM, e_chain, e_src, e_rng, e_lc, g_nx, g_retN, g_brk, g_cnt, g_seq, g_drop, g_ret, g_asg, g_if, g_for, g_app, g_set, kk_ok, kS_ok, kQ_nx, kQ_rt, kQ_bk, kQ_ct, has_some, sl_0, sl_s, st_0, st_s, v_add, v_sub, v_neg, v_lt, v_le, v_gt, v_ge, v_eqi, v_nei, v_is, v_isNot, v_len, v_lenT, v_abs, v_int, v_item, v_itemT, v_list, v_max, v_min, v_repr, blD_bl, truD_bl, truD_lst, isF_int, isF_bl, isF_non, isF_tup, isF_str, isF_lf, isF_lk, isF_lo, isF_ll, at_0, at_1, at_2, ix_0, ix_1, ix_2, cap_i, cap_t, noL_i, noL_n, noL_b, noL_t, ck_0, ck_s, lk_0, lk_1, lk_2, lk_3, lk_4, ln_0, ln_1, ln_2, ln_3, ln_4, own_o, own_l, own_f, its_o, its_l, its_f, lend_o, lend_i, lend_b, lend_n, lend_s, lend_t, cap_k, cap_f, lend_l, lend_f, sh_o, sh_l, sh_f, sh_k, Bool.or_true, Bool.true_or, Bool.or_false, Bool.false_or, intD, isLst, lstO, List.set_cons_zero, List.set_cons_succ, bind_S, forL_0, kL_nx, kL_ct, kL_bk, kL_rt, tg_n, tg_t, tg_0, tg_s, wp_0, wp_s, bk_0, bk_s, rd_0, rd_s, sb_a, sb_l, si_a, si_l, hd_0, out_t, out_f, argD, ite_self, List.map_cons, List.map_nil, List.append_nil, List.cons_append, List.nil_append, Bool.and_true, Bool.true_and, Bool.not_true, Bool.not_false, Bool.and_false, Bool.false_and, true_and, and_true, decide_eq_true_eq, Bool.false_eq_true, if_false, if_true, ite_true, ite_false, reduceIte, Bool.not_eq_true']
    rw [snoc]; exact h _ _
  | q :: r, pre, c, a2, a3, hl, h => by
    simp only [List.length_cons] at hl
    have hl2 : (pre.map pr ++ [D.tup [.int c.1, .int c.2]]).length < 1000000 := by simp; omega
    simp only [List.map_cons, forL_s, pr, bd_tidy_0, e_cst, e_nil, e_yes, e_var, e_fv, e_mv, e_cons, e_dfr, e_op, e_tup, e_lst, e_tr, e_notT, e_andT, e_orT, e_andV, e_orV, e_notV, e_opq, e_if, e_call, e_callM, e_chain, e_src, e_rng, e_lc, g_nx, g_retN, g_brk, g_cnt, g_seq, g_drop, g_ret, g_asg, g_if, g_for, g_app, g_set, kk_ok, kS_ok, kQ_nx, kQ_rt, kQ_bk, kQ_ct, has_some, sl_0, sl_s, st_0, st_s, v_add, v_sub, v_neg, v_lt, v_le, v_gt, v_ge, v_eqi, v_nei, v_is, v_isNot, v_len, v_lenT, v_abs, v_int, v_item, v_itemT, v_list, v_max, v_min, v_repr, blD_bl, truD_bl, truD_lst, isF_int, isF_bl, isF_non, isF_tup, isF_str, isF_lf, isF_lk, isF_lo, isF_ll, at_0, at_1, at_2, ix_0, ix_1, ix_2, cap_i, cap_t, noL_i, noL_n, noL_b, noL_t, ck_0, ck_s, lk_0, lk_1, lk_2, lk_3, lk_4, ln_0, ln_1, ln_2, ln_3, ln_4, own_o, own_l, own_f, its_o, its_l, its_f, lend_o, lend_i, lend_b, lend_n, lend_s, lend_t, cap_k, cap_f, lend_l, lend_f, sh_o, sh_l, sh_f, sh_k, Bool.or_true, Bool.true_or, Bool.or_false, Bool.false_or, intD, isLst, lstO, List.set_cons_zero, List.set_cons_succ, bind_S, forL_0, kL_nx, kL_ct, kL_bk, kL_rt, tg_n, tg_t, tg_0, tg_s, wp_0, wp_s, bk_0, bk_s, rd_0, rd_s, sb_a, sb_l, si_a, si_l, hd_0, out_t, out_f, argD, ite_self, List.map_cons, List.map_nil, List.append_nil, List.cons_append, List.nil_append, Bool.and_true, Bool.true_and, Bool.not_true, Bool.not_false, Bool.and_false, Bool.false_and, true_and, and_true, decide_eq_true_eq, Bool.false_eq_true, if_false, if_true, ite_true, ite_false, reduceIte, Bool.not_eq_true', at_last, ix_last, set_last, emp_last]
    by_cases h1 : q.1 ≤ c.2 + 1 <;> simp only [h1, e_cst, e_nil, e_yes, e_var, e_fv, e_mv, e_cons, e_dfr, e_op, e_tup, e_lst, e_tr, e_notT, e_andT, e_orT, e_andV, e_orV, e_notV, e_opq, e_if, e_call, e_callM, e_chain, e_src, e_rng, e_lc, g_nx, g_retN, g_brk, g_cnt, g_seq, g_drop, g_ret, g_asg, g_if, g_for, g_app, g_set, kk_ok, kS_ok, kQ_nx, kQ_rt, kQ_bk, kQ_ct, has_some, sl_0, sl_s, st_0, st_s, v_add, v_sub, v_neg, v_lt, v_le, v_gt, v_ge, v_eqi, v_nei, v_is, v_isNot, v_len, v_lenT, v_abs, v_int, v_item, v_itemT, v_list, v_max, v_min, v_repr, blD_bl, truD_bl, truD_lst, isF_int, isF_bl, isF_non, isF_tup, isF_str, isF_lf, isF_lk, isF_lo, isF_ll, at_0, at_1, at_2, ix_0, ix_1, ix_2, cap_i, cap_t, noL_i, noL_n, noL_b, noL_t, ck_0, ck_s, lk_0, lk_1, lk_2, lk_3, lk_4, ln_0, ln_1, ln_2, ln_3, ln_4, own_o, own_l, own_f, its_o, its_l, its_f, lend_o, lend_i, lend_b, lend_n, lend_s, lend_t, cap_k, cap_f, lend_l, lend_f, sh_o, sh_l, sh_f, sh_k, Bool.or_true, Bool.true_or, Bool.or_false, Bool.false_or, intD, isLst, lstO, List.set_cons_zero, List.set_cons_succ, bind_S, forL_0, kL_nx, kL_ct, kL_bk, kL_rt, tg_n, tg_t, tg_0, tg_s, wp_0, wp_s, bk_0, bk_s, rd_0, rd_s, sb_a, sb_l, si_a, si_l, hd_0, out_t, out_f, argD, ite_self, List.map_cons, List.map_nil, List.append_nil, List.cons_append, List.nil_append, Bool.and_true, Bool.true_and, Bool.not_true, Bool.not_false, Bool.and_false, Bool.false_and, true_and, and_true, decide_eq_true_eq, Bool.false_eq_true, if_false, if_true, ite_true, ite_false, reduceIte, Bool.not_eq_true', at_last, ix_last, set_last, emp_last] <;> simp only [tidyL, h1, ite_true, ite_false, if_true, if_false] at h
    · exact lp_tidy r pre (c.1, max c.2 q.2) _ _ (by omega) h
    · refine ⟨hl2, ?_⟩
      rw [snoc]
      refine lp_tidy r (pre ++ [(c.1, c.2)]) q _ _ (by simp; omega) ?_
      simpa using h
theorem ok_tidy {m : Fl} (hm : shal m = true) (xs : Sp) (hl : xs.length ≤ 900000) : F_tidy [spD m xs] = some (.ok (spD .o (tidyP xs)), [none]) := by
  unfold F_tidy
  refine fn_go rfl ?_
  show Go ev_tidy [some (spD m xs), none, none, none] _
  have e := sorted_p hm xs (by omega)
  have e2 : itemsOf (spD .o (sortP xs)) = some ((sortP xs).map pr) := rfl
  have l : (sortP xs).length = xs.length := List.length_mergeSort _
  simp only [ev_tidy, e_cst, e_nil, e_yes, e_var, e_fv, e_mv, e_cons, e_dfr, e_op, e_tup, e_lst, e_tr, e_notT, e_andT, e_orT, e_andV, e_orV, e_notV, e_opq, e_if, e_call, e_callM, e_chain, e_src, e_rng, e_lc, g_nx, g_retN, g_brk, g_cnt, g_seq, g_drop, g_ret, g_asg, g_if, g_for, g_app, g_set, kk_ok, kS_ok, kQ_nx, kQ_rt, kQ_bk, kQ_ct, has_some, sl_0, sl_s, st_0, st_s, v_add, v_sub, v_neg, v_lt, v_le, v_gt, v_ge, v_eqi, v_nei, v_is, v_isNot, v_len, v_lenT, v_abs, v_int, v_item, v_itemT, v_list, v_max, v_min, v_repr, blD_bl, truD_bl, truD_lst, isF_int, isF_bl, isF_non, isF_tup, isF_str, isF_lf, isF_lk, isF_lo, isF_ll, at_0, at_1, at_2, ix_0, ix_1, ix_2, cap_i, cap_t, noL_i, noL_n, noL_b, noL_t, ck_0, ck_s, lk_0, lk_1, lk_2, lk_3, lk_4, ln_0, ln_1, ln_2, ln_3, ln_4, own_o, own_l, own_f, its_o, its_l, its_f, lend_o, lend_i, lend_b, lend_n, lend_s, lend_t, cap_k, cap_f, lend_l, lend_f, sh_o, sh_l, sh_f, sh_k, Bool.or_true, Bool.true_or, Bool.or_false, Bool.false_or, intD, isLst, lstO, List.set_cons_zero, List.set_cons_succ, bind_S, forL_0, kL_nx, kL_ct, kL_bk, kL_rt, tg_n, tg_t, tg_0, tg_s, wp_0, wp_s, bk_0, bk_s, rd_0, rd_s, sb_a, sb_l, si_a, si_l, hd_0, out_t, out_f, argD, ite_self, List.map_cons, List.map_nil, List.append_nil, List.cons_append, List.nil_append, Bool.and_true, Bool.true_and, Bool.not_true, Bool.not_false, Bool.and_false, Bool.false_and, true_and, and_true, decide_eq_true_eq, Bool.false_eq_true, if_false, if_true, ite_true, ite_false, reduceIte, Bool.not_eq_true', e, e2]
  unfold tidyP
  cases hs : sortP xs with
  | nil =>
    simp only [e_cst, e_nil, e_yes, e_var, e_fv, e_mv, e_cons, e_dfr, e_op, e_tup, e_lst, e_tr, e_notT, e_andT, e_orT, e_andV, e_orV, e_notV, e_opq, e_if, e_call, e_callM, e_chain, e_src, e_rng, e_lc, g_nx, g_retN, g_brk, g_cnt, g_seq, g_drop, g_ret, g_asg, g_if, g_for, g_app, g_set, kk_ok, kS_ok, kQ_nx, kQ_rt, kQ_bk, kQ_ct, has_some, sl_0, sl_s, st_0, st_s, v_add, v_sub, v_neg, v_lt, v_le, v_gt, v_ge, v_eqi, v_nei, v_is, v_isNot, v_len, v_lenT, v_abs, v_int, v_item, v_itemT, v_list, v_max, v_min, v_repr, blD_bl, truD_bl, truD_lst, isF_int, isF_bl, isF_non, isF_tup, isF_str, isF_lf, isF_lk, isF_lo, isF_ll, at_0, at_1, at_2, ix_0, ix_1, ix_2, cap_i, cap_t, noL_i, noL_n, noL_b, noL_t, ck_0, ck_s, lk_0, lk_1, lk_2, lk_3, lk_4, ln_0, ln_1, ln_2, ln_3, ln_4, own_o, own_l, own_f, its_o, its_l, its_f, lend_o, lend_i, lend_b, lend_n, lend_s, lend_t, cap_k, cap_f, lend_l, lend_f, sh_o, sh_l, sh_f, sh_k, Bool.or_true, Bool.true_or, Bool.or_false, Bool.false_or, intD, isLst, lstO, List.set_cons_zero, List.set_cons_succ, bind_S, forL_0, kL_nx, kL_ct, kL_bk, kL_rt, tg_n, tg_t, tg_0, tg_s, wp_0, wp_s, bk_0, bk_s, rd_0, rd_s, sb_a, sb_l, si_a, si_l, hd_0, out_t, out_f, argD, ite_self, List.map_cons, List.map_nil, List.append_nil, List.cons_append, List.nil_append, Bool.and_true, Bool.true_and, Bool.not_true, Bool.not_false, Bool.and_false, Bool.false_and, true_and, and_true, decide_eq_true_eq, Bool.false_eq_true, if_false, if_true, ite_true, ite_false, reduceIte, Bool.not_eq_true']
    exact ⟨rfl, rfl⟩
  | cons q r =>
    have hlr : r.length ≤ 900000 - 1 := by
      have := l; rw [hs] at this; simp at this; omega
    simp only [List.map_cons, forL_s, pr, bd_tidy_0, e_cst, e_nil, e_yes, e_var, e_fv, e_mv, e_cons, e_dfr, e_op, e_tup, e_lst, e_tr, e_notT, e_andT, e_orT, e_andV, e_orV, e_notV, e_opq, e_if, e_call, e_callM, e_chain, e_src, e_rng, e_lc, g_nx, g_retN, g_brk, g_cnt, g_seq, g_drop, g_ret, g_asg, g_if, g_for, g_app, g_set, kk_ok, kS_ok, kQ_nx, kQ_rt, kQ_bk, kQ_ct, has_some, sl_0, sl_s, st_0, st_s, v_add, v_sub, v_neg, v_lt, v_le, v_gt, v_ge, v_eqi, v_nei, v_is, v_isNot, v_len, v_lenT, v_abs, v_int, v_item, v_itemT, v_list, v_max, v_min, v_repr, blD_bl, truD_bl, truD_lst, isF_int, isF_bl, isF_non, isF_tup, isF_str, isF_lf, isF_lk, isF_lo, isF_ll, at_0, at_1, at_2, ix_0, ix_1, ix_2, cap_i, cap_t, noL_i, noL_n, noL_b, noL_t, ck_0, ck_s, lk_0, lk_1, lk_2, lk_3, lk_4, ln_0, ln_1, ln_2, ln_3, ln_4, own_o, own_l, own_f, its_o, its_l, its_f, lend_o, lend_i, lend_b, lend_n, lend_s, lend_t, cap_k, cap_f, lend_l, lend_f, sh_o, sh_l, sh_f, sh_k, Bool.or_true, Bool.true_or, Bool.or_false, Bool.false_or, intD, isLst, lstO, List.set_cons_zero, List.set_cons_succ, bind_S, forL_0, kL_nx, kL_ct, kL_bk, kL_rt, tg_n, tg_t, tg_0, tg_s, wp_0, wp_s, bk_0, bk_s, rd_0, rd_s, sb_a, sb_l, si_a, si_l, hd_0, out_t, out_f, argD, ite_self, List.map_cons, List.map_nil, List.append_nil, List.cons_append, List.nil_append, Bool.and_true, Bool.true_and, Bool.not_true, Bool.not_false, Bool.and_false, Bool.false_and, true_and, and_true, decide_eq_true_eq, Bool.false_eq_true, if_false, if_true, ite_true, ite_false, reduceIte, Bool.not_eq_true', List.isEmpty_nil, Bool.not_true]
    refine ⟨by simp, ?_⟩
    refine lp_tidy r [] q _ _ (by simp; omega) fun _ _ => ?_
    simp only [e_cst, e_nil, e_yes, e_var, e_fv, e_mv, e_cons, e_dfr, e_op, e_tup, e_lst, e_tr, e_notT, e_andT, e_orT, e_andV, e_orV, e_notV, e_opq, e_if, e_call, e_callM, e_chain, e_src, e_rng, e_lc, g_nx, g_retN, g_brk, g_cnt, g_seq, g_drop, g_ret, g_asg, g_if, g_for, g_app, g_set, kk_ok, kS_ok, kQ_nx, kQ_rt, kQ_bk, kQ_ct, has_some, sl_0, sl_s, st_0, st_s, v_add, v_sub, v_neg, v_lt, v_le, v_gt, v_ge, v_eqi, v_nei, v_is, v_isNot, v_len, v_lenT, v_abs, v_int, v_item, v_itemT, v_list, v_max, v_min, v_repr, blD_bl, truD_bl, truD_lst, isF_int, isF_bl, isF_non, isF_tup, isF_str, isF_lf, isF_lk, isF_lo, isF_ll, at_0, at_1, at_2, ix_0, ix_1, ix_2, cap_i, cap_t, noL_i, noL_n, noL_b, noL_t, ck_0, ck_s, lk_0, lk_1, lk_2, lk_3, lk_4, ln_0, ln_1, ln_2, ln_3, ln_4, own_o, own_l, own_f, its_o, its_l, its_f, lend_o, lend_i, lend_b, lend_n, lend_s, lend_t, cap_k, cap_f, lend_l, lend_f, sh_o, sh_l, sh_f, sh_k, Bool.or_true, Bool.true_or, Bool.or_false, Bool.false_or, intD, isLst, lstO, List.set_cons_zero, List.set_cons_succ, bind_S, forL_0, kL_nx, kL_ct, kL_bk, kL_rt, tg_n, tg_t, tg_0, tg_s, wp_0, wp_s, bk_0, bk_s, rd_0, rd_s, sb_a, sb_l, si_a, si_l, hd_0, out_t, out_f, argD, ite_self, List.map_cons, List.map_nil, List.append_nil, List.cons_append, List.nil_append, Bool.and_true, Bool.true_and, Bool.not_true, Bool.not_false, Bool.and_false, Bool.false_and, true_and, and_true, decide_eq_true_eq, Bool.false_eq_true, if_false, if_true, ite_true, ite_false, reduceIte, Bool.not_eq_true']
    exact ⟨rfl, rfl⟩
theorem ok_join {m n : Fl} (hm : shal m = true) (hn : shal n = true) (xs ys : Sp) (hl : xs.length + ys.length ≤ 900000) : F_join_spans [spD m xs, spD n ys] = some (.ok (spD .o (tidyP (xs ++ ys))), [none, none]) := by
  unfold F_join_spans
  refine fn_go rfl ?_
  show Go ev_join_spans [some (spD m xs), some (spD n ys)] _
  have e : gAdd [spD .o xs, spD .o ys] = some (spD .o (xs ++ ys)) := by
    show (if (shal .o && shal .o && Fl.o != .k && Fl.o != .k && decide ((xs.map pr).length + (ys.map pr).length ≤ sizeLine)) = true then some (D.lst .o (xs.map pr ++ ys.map pr)) else none) = _
    rw [if_pos, show spD .o (xs ++ ys) = D.lst .o (xs.map pr ++ ys.map pr) from by simp [spD]]
    have : decide ((xs.map pr).length + (ys.map pr).length ≤ sizeLine) = true := by
      rw [decide_eq_true_eq, List.length_map, List.length_map, sizeLine_eq]; omega
    rw [this]; rfl
  have c : cap (spD .o (xs ++ ys)) = spD .f (xs ++ ys) := rfl
  have e2 := ok_tidy (m := .f) rfl (xs ++ ys) (by simpa using hl)
  simp only [ev_join_spans, e_cst, e_nil, e_yes, e_var, e_fv, e_mv, e_cons, e_dfr, e_op, e_tup, e_lst, e_tr, e_notT, e_andT, e_orT, e_andV, e_orV, e_notV, e_opq, e_if, e_call, e_callM, e_chain, e_src, e_rng, e_lc, g_nx, g_retN, g_brk, g_cnt, g_seq, g_drop, g_ret, g_asg, g_if, g_for, g_app, g_set, kk_ok, kS_ok, kQ_nx, kQ_rt, kQ_bk, kQ_ct, has_some, sl_0, sl_s, st_0, st_s, v_add, v_sub, v_neg, v_lt, v_le, v_gt, v_ge, v_eqi, v_nei, v_is, v_isNot, v_len, v_lenT, v_abs, v_int, v_item, v_itemT, v_list, v_max, v_min, v_repr, blD_bl, truD_bl, truD_lst, isF_int, isF_bl, isF_non, isF_tup, isF_str, isF_lf, isF_lk, isF_lo, isF_ll, at_0, at_1, at_2, ix_0, ix_1, ix_2, cap_i, cap_t, noL_i, noL_n, noL_b, noL_t, ck_0, ck_s, lk_0, lk_1, lk_2, lk_3, lk_4, ln_0, ln_1, ln_2, ln_3, ln_4, own_o, own_l, own_f, its_o, its_l, its_f, lend_o, lend_i, lend_b, lend_n, lend_s, lend_t, cap_k, cap_f, lend_l, lend_f, sh_o, sh_l, sh_f, sh_k, Bool.or_true, Bool.true_or, Bool.or_false, Bool.false_or, intD, isLst, lstO, List.set_cons_zero, List.set_cons_succ, bind_S, forL_0, kL_nx, kL_ct, kL_bk, kL_rt, tg_n, tg_t, tg_0, tg_s, wp_0, wp_s, bk_0, bk_s, rd_0, rd_s, sb_a, sb_l, si_a, si_l, hd_0, out_t, out_f, argD, ite_self, List.map_cons, List.map_nil, List.append_nil, List.cons_append, List.nil_append, Bool.and_true, Bool.true_and, Bool.not_true, Bool.not_false, Bool.and_false, Bool.false_and, true_and, and_true, decide_eq_true_eq, Bool.false_eq_true, if_false, if_true, ite_true, ite_false, reduceIte, Bool.not_eq_true', hm, hn, e, c, e2]
  rfl
/-! turned -/
def turnL (h f : Int) : Sp → Sp
  | [] => if f ≤ h then [(f, h)] else []
  | q :: r => (if f < q.1 then [(f, min (q.1 - 1) h)] else []) ++ turnL h (max f (q.2 + 1)) r
def turnA (h f : Int) : Sp → Sp
  | [] => []
  | q :: r => (if f < q.1 then [(f, min (q.1 - 1) h)] else []) ++ turnA h (max f (q.2 + 1)) r
def turnF (f : Int) : Sp → Int
  | [] => f
  | q :: r => turnF (max f (q.2 + 1)) r
theorem turn_eq (h : Int) : ∀ (xs : Sp) (f : Int), turnL h f xs = turnA h f xs ++ if turnF f xs ≤ h then [(turnF f xs, h)] else []
  | [], f => rfl
  | q :: r, f => by rw [turnL, turnA, turnF, turn_eq h r, List.append_assoc]
theorem turnA_len (h : Int) : ∀ (xs : Sp) (f : Int), (turnA h f xs).length ≤ xs.length
  | [], f => Nat.le_refl _
  | q :: r, f => by
    have := turnA_len h r (max f (q.2 + 1))
    rw [turnA]
    split <;> simp <;> omega
def turnP (xs : Sp) (l h : Int) : Sp := (turnL h l xs).filter fun s => decide (s.1 ≤ s.2) && decide (s.1 ≤ h)
theorem lp_turn {s0 s1 a7 : Option D} {h : Int} {K : ES → Prop} : ∀ (xs acc : Sp) (f : Int) (a5 a6 : Option D), acc.length + xs.length ≤ 900000 → (∀ a5 a6, K (.nx, [s0, s1, some (.int h), some (spD .o (acc ++ turnA h f xs)), some (.int (turnF f xs)), a5, a6, a7])) →
    has (evForL (tgTup [5, 6]) bd_turned_0 (xs.map pr) [s0, s1, some (.int h), some (spD .o acc), some (.int f), a5, a6, a7]) K
  | [], acc, f, a5, a6, hl, hh => by
    simp only [e_cst, e_nil, e_yes, e_var, e_fv, e_mv, e_cons, e_dfr, e_op, e_tup, e_lst, e_tr, e_notT, e_andT, e_orT, e_andV, e_orV, e_notV, e_opq, e_if, e_call, e_callM, e_chain, e_src, e_rng, e_lc, g_nx, g_retN, g_brk, g_cnt, g_seq, g_drop, g_ret, g_asg, g_if, g_for, g_app, g_set, kk_ok, kS_ok, kQ_nx, kQ_rt, kQ_bk, kQ_ct, has_some, sl_0, sl_s, st_0, st_s, v_add, v_sub, v_neg, v_lt, v_le, v_gt, v_ge, v_eqi, v_nei, v_is, v_isNot, v_len, v_lenT, v_abs, v_int, v_item, v_itemT, v_list, v_max, v_min, v_repr, blD_bl, truD_bl, truD_lst, isF_int, isF_bl, isF_non, isF_tup, isF_str, isF_lf, isF_lk, isF_lo, isF_ll, at_0, at_1, at_2, ix_0, ix_1, ix_2, cap_i, cap_t, noL_i, noL_n, noL_b, noL_t, ck_0, ck_s, lk_0, lk_1, lk_2, lk_3, lk_4, ln_0, ln_1, ln_2, ln_3, ln_4, own_o, own_l, own_f, its_o, its_l, its_f, lend_o, lend_i, lend_b, lend_n, lend_s, lend_t, cap_k, cap_f, lend_l, lend_f, sh_o, sh_l, sh_f, sh_k, Bool.or_true, Bool.true_or, Bool.or_false, Bool.false_or, intD, isLst, lstO, List.set_cons_zero, List.set_cons_succ, bind_S, forL_0, kL_nx, kL_ct, kL_bk, kL_rt, tg_n, tg_t, tg_0, tg_s, wp_0, wp_s, bk_0, bk_s, rd_0, rd_s, sb_a, sb_l, si_a, si_l, hd_0, out_t, out_f, argD, ite_self, List.map_cons, List.map_nil, List.append_nil, List.cons_append, List.nil_append, Bool.and_true, Bool.true_and, Bool.not_true, Bool.not_false, Bool.and_false, Bool.false_and, true_and, and_true, decide_eq_true_eq, Bool.false_eq_true, if_false, if_true, ite_true, ite_false, reduceIte, Bool.not_eq_true']
    simp only [turnA, turnF, List.append_nil] at hh
    exact hh _ _
  | q :: r, acc, f, a5, a6, hl, hh => by
    simp only [List.length_cons] at hl
    have hl2 : (acc.map pr).length < 1000000 := by rw [List.length_map]; omega
    simp only [List.map_cons, forL_s, pr, bd_turned_0, e_cst, e_nil, e_yes, e_var, e_fv, e_mv, e_cons, e_dfr, e_op, e_tup, e_lst, e_tr, e_notT, e_andT, e_orT, e_andV, e_orV, e_notV, e_opq, e_if, e_call, e_callM, e_chain, e_src, e_rng, e_lc, g_nx, g_retN, g_brk, g_cnt, g_seq, g_drop, g_ret, g_asg, g_if, g_for, g_app, g_set, kk_ok, kS_ok, kQ_nx, kQ_rt, kQ_bk, kQ_ct, has_some, sl_0, sl_s, st_0, st_s, v_add, v_sub, v_neg, v_lt, v_le, v_gt, v_ge, v_eqi, v_nei, v_is, v_isNot, v_len, v_lenT, v_abs, v_int, v_item, v_itemT, v_list, v_max, v_min, v_repr, blD_bl, truD_bl, truD_lst, isF_int, isF_bl, isF_non, isF_tup, isF_str, isF_lf, isF_lk, isF_lo, isF_ll, at_0, at_1, at_2, ix_0, ix_1, ix_2, cap_i, cap_t, noL_i, noL_n, noL_b, noL_t, ck_0, ck_s, lk_0, lk_1, lk_2, lk_3, lk_4, ln_0, ln_1, ln_2, ln_3, ln_4, own_o, own_l, own_f, its_o, its_l, its_f, lend_o, lend_i, lend_b, lend_n, lend_s, lend_t, cap_k, cap_f, lend_l, lend_f, sh_o, sh_l, sh_f, sh_k, Bool.or_true, Bool.true_or, Bool.or_false, Bool.false_or, intD, isLst, lstO, List.set_cons_zero, List.set_cons_succ, bind_S, forL_0, kL_nx, kL_ct, kL_bk, kL_rt, tg_n, tg_t, tg_0, tg_s, wp_0, wp_s, bk_0, bk_s, rd_0, rd_s, sb_a, sb_l, si_a, si_l, hd_0, out_t, out_f, argD, ite_self, List.map_cons, List.map_nil, List.append_nil, List.cons_append, List.nil_append, Bool.and_true, Bool.true_and, Bool.not_true, Bool.not_false, Bool.and_false, Bool.false_and, true_and, and_true, decide_eq_true_eq, Bool.false_eq_true, if_false, if_true, ite_true, ite_false, reduceIte, Bool.not_eq_true']
    by_cases h1 : f < q.1 <;> simp only [h1, e_cst, e_nil, e_yes, e_var, e_fv, e_mv, e_cons, e_dfr, e_op, e_tup, e_lst, e_tr, e_notT, e_andT, e_orT, e_andV, e_orV, e_notV, e_opq, e_if, e_call, e_callM, e_chain, e_src, e_rng, e_lc, g_nx, g_retN, g_brk, g_cnt, g_seq, g_drop, g_ret, g_asg, g_if, g_for, g_app, g_set, kk_ok, kS_ok, kQ_nx, kQ_rt, kQ_bk, kQ_ct, has_some, sl_0, sl_s, st_0, st_s, v_add, v_sub, v_neg, v_lt, v_le, v_gt, v_ge, v_eqi, v_nei, v_is, v_isNot, v_len, v_lenT, v_abs, v_int, v_item, v_itemT, v_list, v_max, v_min, v_repr, blD_bl, truD_bl, truD_lst, isF_int, isF_bl, isF_non, isF_tup, isF_str, isF_lf, isF_lk, isF_lo, isF_ll, at_0, at_1, at_2, ix_0, ix_1, ix_2, cap_i, cap_t, noL_i, noL_n, noL_b, noL_t, ck_0, ck_s, lk_0, lk_1, lk_2, lk_3, lk_4, ln_0, ln_1, ln_2, ln_3, ln_4, own_o, own_l, own_f, its_o, its_l, its_f, lend_o, lend_i, lend_b, lend_n, lend_s, lend_t, cap_k, cap_f, lend_l, lend_f, sh_o, sh_l, sh_f, sh_k, Bool.or_true, Bool.true_or, Bool.or_false, Bool.false_or, intD, isLst, lstO, List.set_cons_zero, List.set_cons_succ, bind_S, forL_0, kL_nx, kL_ct, kL_bk, kL_rt, tg_n, tg_t, tg_0, tg_s, wp_0, wp_s, bk_0, bk_s, rd_0, rd_s, sb_a, sb_l, si_a, si_l, hd_0, out_t, out_f, argD, ite_self, List.map_cons, List.map_nil, List.append_nil, List.cons_append, List.nil_append, Bool.and_true, Bool.true_and, Bool.not_true, Bool.not_false, Bool.and_false, Bool.false_and, true_and, and_true, decide_eq_true_eq, Bool.false_eq_true, if_false, if_true, ite_true, ite_false, reduceIte, Bool.not_eq_true'] <;> simp only [turnA, turnF, h1, ite_true, ite_false, if_true, if_false, List.nil_append] at hh
    · refine ⟨hl2, ?_⟩
      rw [snoc]
      refine lp_turn r (acc ++ [(f, min (q.1 - 1) h)]) _ _ _ (by simp; omega) ?_
      simpa using hh
    · exact lp_turn r acc _ _ _ (by omega) hh
theorem cap_pr (q : Int × Int) : cap (pr q) = pr q := rfl
theorem ok_turned {m : Fl} (hm : RO m) (xs : Sp) (l h : Int) (hl : xs.length ≤ 1000) : F_turned [spD m xs, .int l, .int h] = some (.ok (spD .o (turnP xs l h)), [none, none, none]) := by
  unfold F_turned
  refine fn_go rfl ?_
  show Go ev_turned [some (spD m xs), some (.int l), some (.int h), none, none, none, none, none] _
  simp only [ev_turned, e_cst, e_nil, e_yes, e_var, e_fv, e_mv, e_cons, e_dfr, e_op, e_tup, e_lst, e_tr, e_notT, e_andT, e_orT, e_andV, e_orV, e_notV, e_opq, e_if, e_call, e_callM, e_chain, e_src, e_rng, e_lc, g_nx, g_retN, g_brk, g_cnt, g_seq, g_drop, g_ret, g_asg, g_if, g_for, g_app, g_set, kk_ok, kS_ok, kQ_nx, kQ_rt, kQ_bk, kQ_ct, has_some, sl_0, sl_s, st_0, st_s, v_add, v_sub, v_neg, v_lt, v_le, v_gt, v_ge, v_eqi, v_nei, v_is, v_isNot, v_len, v_lenT, v_abs, v_int, v_item, v_itemT, v_list, v_max, v_min, v_repr, blD_bl, truD_bl, truD_lst, isF_int, isF_bl, isF_non, isF_tup, isF_str, isF_lf, isF_lk, isF_lo, isF_ll, at_0, at_1, at_2, ix_0, ix_1, ix_2, cap_i, cap_t, noL_i, noL_n, noL_b, noL_t, ck_0, ck_s, lk_0, lk_1, lk_2, lk_3, lk_4, ln_0, ln_1, ln_2, ln_3, ln_4, own_o, own_l, own_f, its_o, its_l, its_f, lend_o, lend_i, lend_b, lend_n, lend_s, lend_t, cap_k, cap_f, lend_l, lend_f, sh_o, sh_l, sh_f, sh_k, Bool.or_true, Bool.true_or, Bool.or_false, Bool.false_or, intD, isLst, lstO, List.set_cons_zero, List.set_cons_succ, bind_S, forL_0, kL_nx, kL_ct, kL_bk, kL_rt, tg_n, tg_t, tg_0, tg_s, wp_0, wp_s, bk_0, bk_s, rd_0, rd_s, sb_a, sb_l, si_a, si_l, hd_0, out_t, out_f, argD, ite_self, List.map_cons, List.map_nil, List.append_nil, List.cons_append, List.nil_append, Bool.and_true, Bool.true_and, Bool.not_true, Bool.not_false, Bool.and_false, Bool.false_and, true_and, and_true, decide_eq_true_eq, Bool.false_eq_true, if_false, if_true, ite_true, ite_false, reduceIte, Bool.not_eq_true', itemsOf_lst hm.1, hm.2]
  refine lp_turn xs [] l _ _ (by simp; omega) fun a5 a6 => ?_
  have la := turnA_len h xs l
  have key : ∀ (ys : Sp) (a4 : Option D) (K : List D × DS → Prop), ys.length ≤ 2000 → K ((ys.filter fun s => decide (s.1 ≤ s.2) && decide (s.1 ≤ h)).map pr, [some (spD m xs), some (.int l), some (.int h), some (.lst .l (ys.map pr)), a4, a5, a6, none]) →
      has (evCmp (tgName 7) ct_turned_1 ce_turned_2 [7] (ys.map pr) [] [some (spD m xs), some (.int l), some (.int h), some (.lst .l (ys.map pr)), a4, a5, a6, none]) K := fun ys a4 K hy hK => by
    refine has_cmp (fun s : Int × Int => decide (s.1 ≤ s.2) && decide (s.1 ≤ h)) pr ys (by simp; omega) (fun s _ => ?_) ?_
    · simp only [pr, ct_turned_1, ce_turned_2, e_cst, e_nil, e_yes, e_var, e_fv, e_mv, e_cons, e_dfr, e_op, e_tup, e_lst, e_tr, e_notT, e_andT, e_orT, e_andV, e_orV, e_notV, e_opq, e_if, e_call, e_callM, e_chain, e_src, e_rng, e_lc, g_nx, g_retN, g_brk, g_cnt, g_seq, g_drop, g_ret, g_asg, g_if, g_for, g_app, g_set, kk_ok, kS_ok, kQ_nx, kQ_rt, kQ_bk, kQ_ct, has_some, sl_0, sl_s, st_0, st_s, v_add, v_sub, v_neg, v_lt, v_le, v_gt, v_ge, v_eqi, v_nei, v_is, v_isNot, v_len, v_lenT, v_abs, v_int, v_item, v_itemT, v_list, v_max, v_min, v_repr, blD_bl, truD_bl, truD_lst, isF_int, isF_bl, isF_non, isF_tup, isF_str, isF_lf, isF_lk, isF_lo, isF_ll, at_0, at_1, at_2, ix_0, ix_1, ix_2, cap_i, cap_t, noL_i, noL_n, noL_b, noL_t, ck_0, ck_s, lk_0, lk_1, lk_2, lk_3, lk_4, ln_0, ln_1, ln_2, ln_3, ln_4, own_o, own_l, own_f, its_o, its_l, its_f, lend_o, lend_i, lend_b, lend_n, lend_s, lend_t, cap_k, cap_f, lend_l, lend_f, sh_o, sh_l, sh_f, sh_k, Bool.or_true, Bool.true_or, Bool.or_false, Bool.false_or, intD, isLst, lstO, List.set_cons_zero, List.set_cons_succ, bind_S, forL_0, kL_nx, kL_ct, kL_bk, kL_rt, tg_n, tg_t, tg_0, tg_s, wp_0, wp_s, bk_0, bk_s, rd_0, rd_s, sb_a, sb_l, si_a, si_l, hd_0, out_t, out_f, argD, ite_self, List.map_cons, List.map_nil, List.append_nil, List.cons_append, List.nil_append, Bool.and_true, Bool.true_and, Bool.not_true, Bool.not_false, Bool.and_false, Bool.false_and, true_and, and_true, decide_eq_true_eq, Bool.false_eq_true, if_false, if_true, ite_true, ite_false, reduceIte, Bool.not_eq_true']
      by_cases h1 : s.1 ≤ s.2 <;> by_cases h2 : s.1 ≤ h <;> simp [h1, h2, e_cst, e_nil, e_yes, e_var, e_fv, e_mv, e_cons, e_dfr, e_op, e_tup, e_lst, e_tr, e_notT, e_andT, e_orT, e_andV, e_orV, e_notV, e_opq, e_if, e_call, e_callM, e_chain, e_src, e_rng, e_lc, g_nx, g_retN, g_brk, g_cnt, g_seq, g_drop, g_ret, g_asg, g_if, g_for, g_app, g_set, kk_ok, kS_ok, kQ_nx, kQ_rt, kQ_bk, kQ_ct, has_some, sl_0, sl_s, st_0, st_s, v_add, v_sub, v_neg, v_lt, v_le, v_gt, v_ge, v_eqi, v_nei, v_is, v_isNot, v_len, v_lenT, v_abs, v_int, v_item, v_itemT, v_list, v_max, v_min, v_repr, blD_bl, truD_bl, truD_lst, isF_int, isF_bl, isF_non, isF_tup, isF_str, isF_lf, isF_lk, isF_lo, isF_ll, at_0, at_1, at_2, ix_0, ix_1, ix_2, cap_i, cap_t, noL_i, noL_n, noL_b, noL_t, ck_0, ck_s, lk_0, lk_1, lk_2, lk_3, lk_4, ln_0, ln_1, ln_2, ln_3, ln_4, own_o, own_l, own_f, its_o, its_l, its_f, lend_o, lend_i, lend_b, lend_n, lend_s, lend_t, cap_k, cap_f, lend_l, lend_f, sh_o, sh_l, sh_f, sh_k, Bool.or_true, Bool.true_or, Bool.or_false, Bool.false_or, intD, isLst, lstO, List.set_cons_zero, List.set_cons_succ, bind_S, forL_0, kL_nx, kL_ct, kL_bk, kL_rt, tg_n, tg_t, tg_0, tg_s, wp_0, wp_s, bk_0, bk_s, rd_0, rd_s, sb_a, sb_l, si_a, si_l, hd_0, out_t, out_f, argD, ite_self, List.map_cons, List.map_nil, List.append_nil, List.cons_append, List.nil_append, Bool.and_true, Bool.true_and, Bool.not_true, Bool.not_false, Bool.and_false, Bool.false_and, true_and, and_true, decide_eq_true_eq, Bool.false_eq_true, if_false, if_true, ite_true, ite_false, reduceIte, Bool.not_eq_true']
    · exact hK
  simp only [e_cst, e_nil, e_yes, e_var, e_fv, e_mv, e_cons, e_dfr, e_op, e_tup, e_lst, e_tr, e_notT, e_andT, e_orT, e_andV, e_orV, e_notV, e_opq, e_if, e_call, e_callM, e_chain, e_src, e_rng, e_lc, g_nx, g_retN, g_brk, g_cnt, g_seq, g_drop, g_ret, g_asg, g_if, g_for, g_app, g_set, kk_ok, kS_ok, kQ_nx, kQ_rt, kQ_bk, kQ_ct, has_some, sl_0, sl_s, st_0, st_s, v_add, v_sub, v_neg, v_lt, v_le, v_gt, v_ge, v_eqi, v_nei, v_is, v_isNot, v_len, v_lenT, v_abs, v_int, v_item, v_itemT, v_list, v_max, v_min, v_repr, blD_bl, truD_bl, truD_lst, isF_int, isF_bl, isF_non, isF_tup, isF_str, isF_lf, isF_lk, isF_lo, isF_ll, at_0, at_1, at_2, ix_0, ix_1, ix_2, cap_i, cap_t, noL_i, noL_n, noL_b, noL_t, ck_0, ck_s, lk_0, lk_1, lk_2, lk_3, lk_4, ln_0, ln_1, ln_2, ln_3, ln_4, own_o, own_l, own_f, its_o, its_l, its_f, lend_o, lend_i, lend_b, lend_n, lend_s, lend_t, cap_k, cap_f, lend_l, lend_f, sh_o, sh_l, sh_f, sh_k, Bool.or_true, Bool.true_or, Bool.or_false, Bool.false_or, intD, isLst, lstO, List.set_cons_zero, List.set_cons_succ, bind_S, forL_0, kL_nx, kL_ct, kL_bk, kL_rt, tg_n, tg_t, tg_0, tg_s, wp_0, wp_s, bk_0, bk_s, rd_0, rd_s, sb_a, sb_l, si_a, si_l, hd_0, out_t, out_f, argD, ite_self, List.map_cons, List.map_nil, List.append_nil, List.cons_append, List.nil_append, Bool.and_true, Bool.true_and, Bool.not_true, Bool.not_false, Bool.and_false, Bool.false_and, true_and, and_true, decide_eq_true_eq, Bool.false_eq_true, if_false, if_true, ite_true, ite_false, reduceIte, Bool.not_eq_true', List.nil_append]
  by_cases h1 : turnF l xs ≤ h
  · simp only [h1, e_cst, e_nil, e_yes, e_var, e_fv, e_mv, e_cons, e_dfr, e_op, e_tup, e_lst, e_tr, e_notT, e_andT, e_orT, e_andV, e_orV, e_notV, e_opq, e_if, e_call, e_callM, e_chain, e_src, e_rng, e_lc, g_nx, g_retN, g_brk, g_cnt, g_seq, g_drop, g_ret, g_asg, g_if, g_for, g_app, g_set, kk_ok, kS_ok, kQ_nx, kQ_rt, kQ_bk, kQ_ct, has_some, sl_0, sl_s, st_0, st_s, v_add, v_sub, v_neg, v_lt, v_le, v_gt, v_ge, v_eqi, v_nei, v_is, v_isNot, v_len, v_lenT, v_abs, v_int, v_item, v_itemT, v_list, v_max, v_min, v_repr, blD_bl, truD_bl, truD_lst, isF_int, isF_bl, isF_non, isF_tup, isF_str, isF_lf, isF_lk, isF_lo, isF_ll, at_0, at_1, at_2, ix_0, ix_1, ix_2, cap_i, cap_t, noL_i, noL_n, noL_b, noL_t, ck_0, ck_s, lk_0, lk_1, lk_2, lk_3, lk_4, ln_0, ln_1, ln_2, ln_3, ln_4, own_o, own_l, own_f, its_o, its_l, its_f, lend_o, lend_i, lend_b, lend_n, lend_s, lend_t, cap_k, cap_f, lend_l, lend_f, sh_o, sh_l, sh_f, sh_k, Bool.or_true, Bool.true_or, Bool.or_false, Bool.false_or, intD, isLst, lstO, List.set_cons_zero, List.set_cons_succ, bind_S, forL_0, kL_nx, kL_ct, kL_bk, kL_rt, tg_n, tg_t, tg_0, tg_s, wp_0, wp_s, bk_0, bk_s, rd_0, rd_s, sb_a, sb_l, si_a, si_l, hd_0, out_t, out_f, argD, ite_self, List.map_cons, List.map_nil, List.append_nil, List.cons_append, List.nil_append, Bool.and_true, Bool.true_and, Bool.not_true, Bool.not_false, Bool.and_false, Bool.false_and, true_and, and_true, decide_eq_true_eq, Bool.false_eq_true, if_false, if_true, ite_true, ite_false, reduceIte, Bool.not_eq_true']
    refine ⟨by simp; omega, ?_⟩
    rw [snoc]
    refine key _ _ _ (by simp; omega) ?_
    simp only [e_cst, e_nil, e_yes, e_var, e_fv, e_mv, e_cons, e_dfr, e_op, e_tup, e_lst, e_tr, e_notT, e_andT, e_orT, e_andV, e_orV, e_notV, e_opq, e_if, e_call, e_callM, e_chain, e_src, e_rng, e_lc, g_nx, g_retN, g_brk, g_cnt, g_seq, g_drop, g_ret, g_asg, g_if, g_for, g_app, g_set, kk_ok, kS_ok, kQ_nx, kQ_rt, kQ_bk, kQ_ct, has_some, sl_0, sl_s, st_0, st_s, v_add, v_sub, v_neg, v_lt, v_le, v_gt, v_ge, v_eqi, v_nei, v_is, v_isNot, v_len, v_lenT, v_abs, v_int, v_item, v_itemT, v_list, v_max, v_min, v_repr, blD_bl, truD_bl, truD_lst, isF_int, isF_bl, isF_non, isF_tup, isF_str, isF_lf, isF_lk, isF_lo, isF_ll, at_0, at_1, at_2, ix_0, ix_1, ix_2, cap_i, cap_t, noL_i, noL_n, noL_b, noL_t, ck_0, ck_s, lk_0, lk_1, lk_2, lk_3, lk_4, ln_0, ln_1, ln_2, ln_3, ln_4, own_o, own_l, own_f, its_o, its_l, its_f, lend_o, lend_i, lend_b, lend_n, lend_s, lend_t, cap_k, cap_f, lend_l, lend_f, sh_o, sh_l, sh_f, sh_k, Bool.or_true, Bool.true_or, Bool.or_false, Bool.false_or, intD, isLst, lstO, List.set_cons_zero, List.set_cons_succ, bind_S, forL_0, kL_nx, kL_ct, kL_bk, kL_rt, tg_n, tg_t, tg_0, tg_s, wp_0, wp_s, bk_0, bk_s, rd_0, rd_s, sb_a, sb_l, si_a, si_l, hd_0, out_t, out_f, argD, ite_self, List.map_cons, List.map_nil, List.append_nil, List.cons_append, List.nil_append, Bool.and_true, Bool.true_and, Bool.not_true, Bool.not_false, Bool.and_false, Bool.false_and, true_and, and_true, decide_eq_true_eq, Bool.false_eq_true, if_false, if_true, ite_true, ite_false, reduceIte, Bool.not_eq_true']
    unfold turnP
    rw [turn_eq, if_pos h1]; rfl
  · simp only [h1, e_cst, e_nil, e_yes, e_var, e_fv, e_mv, e_cons, e_dfr, e_op, e_tup, e_lst, e_tr, e_notT, e_andT, e_orT, e_andV, e_orV, e_notV, e_opq, e_if, e_call, e_callM, e_chain, e_src, e_rng, e_lc, g_nx, g_retN, g_brk, g_cnt, g_seq, g_drop, g_ret, g_asg, g_if, g_for, g_app, g_set, kk_ok, kS_ok, kQ_nx, kQ_rt, kQ_bk, kQ_ct, has_some, sl_0, sl_s, st_0, st_s, v_add, v_sub, v_neg, v_lt, v_le, v_gt, v_ge, v_eqi, v_nei, v_is, v_isNot, v_len, v_lenT, v_abs, v_int, v_item, v_itemT, v_list, v_max, v_min, v_repr, blD_bl, truD_bl, truD_lst, isF_int, isF_bl, isF_non, isF_tup, isF_str, isF_lf, isF_lk, isF_lo, isF_ll, at_0, at_1, at_2, ix_0, ix_1, ix_2, cap_i, cap_t, noL_i, noL_n, noL_b, noL_t, ck_0, ck_s, lk_0, lk_1, lk_2, lk_3, lk_4, ln_0, ln_1, ln_2, ln_3, ln_4, own_o, own_l, own_f, its_o, its_l, its_f, lend_o, lend_i, lend_b, lend_n, lend_s, lend_t, cap_k, cap_f, lend_l, lend_f, sh_o, sh_l, sh_f, sh_k, Bool.or_true, Bool.true_or, Bool.or_false, Bool.false_or, intD, isLst, lstO, List.set_cons_zero, List.set_cons_succ, bind_S, forL_0, kL_nx, kL_ct, kL_bk, kL_rt, tg_n, tg_t, tg_0, tg_s, wp_0, wp_s, bk_0, bk_s, rd_0, rd_s, sb_a, sb_l, si_a, si_l, hd_0, out_t, out_f, argD, ite_self, List.map_cons, List.map_nil, List.append_nil, List.cons_append, List.nil_append, Bool.and_true, Bool.true_and, Bool.not_true, Bool.not_false, Bool.and_false, Bool.false_and, true_and, and_true, decide_eq_true_eq, Bool.false_eq_true, if_false, if_true, ite_true, ite_false, reduceIte, Bool.not_eq_true']
    refine key _ _ _ (by omega) ?_
    simp only [e_cst, e_nil, e_yes, e_var, e_fv, e_mv, e_cons, e_dfr, e_op, e_tup, e_lst, e_tr, e_notT, e_andT, e_orT, e_andV, e_orV, e_notV, e_opq, e_if, e_call, e_callM, e_chain, e_src, e_rng, e_lc, g_nx, g_retN, g_brk, g_cnt, g_seq, g_drop, g_ret, g_asg, g_if, g_for, g_app, g_set, kk_ok, kS_ok, kQ_nx, kQ_rt, kQ_bk, kQ_ct, has_some, sl_0, sl_s, st_0, st_s, v_add, v_sub, v_neg, v_lt, v_le, v_gt, v_ge, v_eqi, v_nei, v_is, v_isNot, v_len, v_lenT, v_abs, v_int, v_item, v_itemT, v_list, v_max, v_min, v_repr, blD_bl, truD_bl, truD_lst, isF_int, isF_bl, isF_non, isF_tup, isF_str, isF_lf, isF_lk, isF_lo, isF_ll, at_0, at_1, at_2, ix_0, ix_1, ix_2, cap_i, cap_t, noL_i, noL_n, noL_b, noL_t, ck_0, ck_s, lk_0, lk_1, lk_2, lk_3, lk_4, ln_0, ln_1, ln_2, ln_3, ln_4, own_o, own_l, own_f, its_o, its_l, its_f, lend_o, lend_i, lend_b, lend_n, lend_s, lend_t, cap_k, cap_f, lend_l, lend_f, sh_o, sh_l, sh_f, sh_k, Bool.or_true, Bool.true_or, Bool.or_false, Bool.false_or, intD, isLst, lstO, List.set_cons_zero, List.set_cons_succ, bind_S, forL_0, kL_nx, kL_ct, kL_bk, kL_rt, tg_n, tg_t, tg_0, tg_s, wp_0, wp_s, bk_0, bk_s, rd_0, rd_s, sb_a, sb_l, si_a, si_l, hd_0, out_t, out_f, argD, ite_self, List.map_cons, List.map_nil, List.append_nil, List.cons_append, List.nil_append, Bool.and_true, Bool.true_and, Bool.not_true, Bool.not_false, Bool.and_false, Bool.false_and, true_and, and_true, decide_eq_true_eq, Bool.false_eq_true, if_false, if_true, ite_true, ite_false, reduceIte, Bool.not_eq_true']
    unfold turnP
    rw [turn_eq, if_neg h1, List.append_nil]; rfl
/-! shifted, shrunk, length, nth, rank, within -/
def shiftP (xs : Sp) (k : Int) : Sp := xs.map fun q => (q.1 + k, q.2 + k)
theorem ok_shifted {m : Fl} (hm : RO m) (xs : Sp) (k l h : Int) (hl : xs.length ≤ 1000) : F_shifted [spD m xs, .int k, .int l, .int h] = some (.ok (spD .o (meetP (shiftP xs k) [(l, h)])), [none, none, none, none]) := by
  unfold F_shifted
  refine fn_go rfl ?_
  show Go ev_shifted [some (spD m xs), some (.int k), some (.int l), some (.int h), none, none, none] _
  simp only [ev_shifted, e_cst, e_nil, e_yes, e_var, e_fv, e_mv, e_cons, e_dfr, e_op, e_tup, e_lst, e_tr, e_notT, e_andT, e_orT, e_andV, e_orV, e_notV, e_opq, e_if, e_call, e_callM, e_chain, e_src, e_rng, e_lc, g_nx, g_retN, g_brk, g_cnt, g_seq, g_drop, g_ret, g_asg, g_if, g_for, g_app, g_set, kk_ok, kS_ok, kQ_nx, kQ_rt, kQ_bk, kQ_ct, has_some, sl_0, sl_s, st_0, st_s, v_add, v_sub, v_neg, v_lt, v_le, v_gt, v_ge, v_eqi, v_nei, v_is, v_isNot, v_len, v_lenT, v_abs, v_int, v_item, v_itemT, v_list, v_max, v_min, v_repr, blD_bl, truD_bl, truD_lst, isF_int, isF_bl, isF_non, isF_tup, isF_str, isF_lf, isF_lk, isF_lo, isF_ll, at_0, at_1, at_2, ix_0, ix_1, ix_2, cap_i, cap_t, noL_i, noL_n, noL_b, noL_t, ck_0, ck_s, lk_0, lk_1, lk_2, lk_3, lk_4, ln_0, ln_1, ln_2, ln_3, ln_4, own_o, own_l, own_f, its_o, its_l, its_f, lend_o, lend_i, lend_b, lend_n, lend_s, lend_t, cap_k, cap_f, lend_l, lend_f, sh_o, sh_l, sh_f, sh_k, Bool.or_true, Bool.true_or, Bool.or_false, Bool.false_or, intD, isLst, lstO, List.set_cons_zero, List.set_cons_succ, bind_S, forL_0, kL_nx, kL_ct, kL_bk, kL_rt, tg_n, tg_t, tg_0, tg_s, wp_0, wp_s, bk_0, bk_s, rd_0, rd_s, sb_a, sb_l, si_a, si_l, hd_0, out_t, out_f, argD, ite_self, List.map_cons, List.map_nil, List.append_nil, List.cons_append, List.nil_append, Bool.and_true, Bool.true_and, Bool.not_true, Bool.not_false, Bool.and_false, Bool.false_and, true_and, and_true, decide_eq_true_eq, Bool.false_eq_true, if_false, if_true, ite_true, ite_false, reduceIte, Bool.not_eq_true', itemsOf_lst hm.1, hm.2]
  refine has_cmpA (fun q : Int × Int => (q.1 + k, q.2 + k)) pr cap_pr xs (by omega) (fun s _ => ?_) ?_
  · simp only [pr, ct_shifted_0, ce_shifted_1, e_cst, e_nil, e_yes, e_var, e_fv, e_mv, e_cons, e_dfr, e_op, e_tup, e_lst, e_tr, e_notT, e_andT, e_orT, e_andV, e_orV, e_notV, e_opq, e_if, e_call, e_callM, e_chain, e_src, e_rng, e_lc, g_nx, g_retN, g_brk, g_cnt, g_seq, g_drop, g_ret, g_asg, g_if, g_for, g_app, g_set, kk_ok, kS_ok, kQ_nx, kQ_rt, kQ_bk, kQ_ct, has_some, sl_0, sl_s, st_0, st_s, v_add, v_sub, v_neg, v_lt, v_le, v_gt, v_ge, v_eqi, v_nei, v_is, v_isNot, v_len, v_lenT, v_abs, v_int, v_item, v_itemT, v_list, v_max, v_min, v_repr, blD_bl, truD_bl, truD_lst, isF_int, isF_bl, isF_non, isF_tup, isF_str, isF_lf, isF_lk, isF_lo, isF_ll, at_0, at_1, at_2, ix_0, ix_1, ix_2, cap_i, cap_t, noL_i, noL_n, noL_b, noL_t, ck_0, ck_s, lk_0, lk_1, lk_2, lk_3, lk_4, ln_0, ln_1, ln_2, ln_3, ln_4, own_o, own_l, own_f, its_o, its_l, its_f, lend_o, lend_i, lend_b, lend_n, lend_s, lend_t, cap_k, cap_f, lend_l, lend_f, sh_o, sh_l, sh_f, sh_k, Bool.or_true, Bool.true_or, Bool.or_false, Bool.false_or, intD, isLst, lstO, List.set_cons_zero, List.set_cons_succ, bind_S, forL_0, kL_nx, kL_ct, kL_bk, kL_rt, tg_n, tg_t, tg_0, tg_s, wp_0, wp_s, bk_0, bk_s, rd_0, rd_s, sb_a, sb_l, si_a, si_l, hd_0, out_t, out_f, argD, ite_self, List.map_cons, List.map_nil, List.append_nil, List.cons_append, List.nil_append, Bool.and_true, Bool.true_and, Bool.not_true, Bool.not_false, Bool.and_false, Bool.false_and, true_and, and_true, decide_eq_true_eq, Bool.false_eq_true, if_false, if_true, ite_true, ite_false, reduceIte, Bool.not_eq_true']
  · have em := ok_meet RO.l RO.f (shiftP xs k) [(l, h)] (by simp [shiftP]; omega)
    have c : cap (.lst .o [.tup [.int l, .int h]]) = spD .f [(l, h)] := rfl
    unfold shiftP at em ⊢
    simp only [e_cst, e_nil, e_yes, e_var, e_fv, e_mv, e_cons, e_dfr, e_op, e_tup, e_lst, e_tr, e_notT, e_andT, e_orT, e_andV, e_orV, e_notV, e_opq, e_if, e_call, e_callM, e_chain, e_src, e_rng, e_lc, g_nx, g_retN, g_brk, g_cnt, g_seq, g_drop, g_ret, g_asg, g_if, g_for, g_app, g_set, kk_ok, kS_ok, kQ_nx, kQ_rt, kQ_bk, kQ_ct, has_some, sl_0, sl_s, st_0, st_s, v_add, v_sub, v_neg, v_lt, v_le, v_gt, v_ge, v_eqi, v_nei, v_is, v_isNot, v_len, v_lenT, v_abs, v_int, v_item, v_itemT, v_list, v_max, v_min, v_repr, blD_bl, truD_bl, truD_lst, isF_int, isF_bl, isF_non, isF_tup, isF_str, isF_lf, isF_lk, isF_lo, isF_ll, at_0, at_1, at_2, ix_0, ix_1, ix_2, cap_i, cap_t, noL_i, noL_n, noL_b, noL_t, ck_0, ck_s, lk_0, lk_1, lk_2, lk_3, lk_4, ln_0, ln_1, ln_2, ln_3, ln_4, own_o, own_l, own_f, its_o, its_l, its_f, lend_o, lend_i, lend_b, lend_n, lend_s, lend_t, cap_k, cap_f, lend_l, lend_f, sh_o, sh_l, sh_f, sh_k, Bool.or_true, Bool.true_or, Bool.or_false, Bool.false_or, intD, isLst, lstO, List.set_cons_zero, List.set_cons_succ, bind_S, forL_0, kL_nx, kL_ct, kL_bk, kL_rt, tg_n, tg_t, tg_0, tg_s, wp_0, wp_s, bk_0, bk_s, rd_0, rd_s, sb_a, sb_l, si_a, si_l, hd_0, out_t, out_f, argD, ite_self, List.map_cons, List.map_nil, List.append_nil, List.cons_append, List.nil_append, Bool.and_true, Bool.true_and, Bool.not_true, Bool.not_false, Bool.and_false, Bool.false_and, true_and, and_true, decide_eq_true_eq, Bool.false_eq_true, if_false, if_true, ite_true, ite_false, reduceIte, Bool.not_eq_true', c, em]
    rfl
def shrunkP (xs : Sp) (k : Int) : Sp := (xs.filter fun q => decide (q.1 ≤ q.2 - k)).map fun q => (q.1, q.2 - k)
theorem ok_shrunk {m : Fl} (hm : RO m) (xs : Sp) (k : Int) (hl : xs.length ≤ 1000) : F_shrunk [spD m xs, .int k] = some (.ok (spD .o (shrunkP xs k)), [none, none]) := by
  unfold F_shrunk
  refine fn_go rfl ?_
  show Go ev_shrunk [some (spD m xs), some (.int k), none, none] _
  simp only [ev_shrunk, e_cst, e_nil, e_yes, e_var, e_fv, e_mv, e_cons, e_dfr, e_op, e_tup, e_lst, e_tr, e_notT, e_andT, e_orT, e_andV, e_orV, e_notV, e_opq, e_if, e_call, e_callM, e_chain, e_src, e_rng, e_lc, g_nx, g_retN, g_brk, g_cnt, g_seq, g_drop, g_ret, g_asg, g_if, g_for, g_app, g_set, kk_ok, kS_ok, kQ_nx, kQ_rt, kQ_bk, kQ_ct, has_some, sl_0, sl_s, st_0, st_s, v_add, v_sub, v_neg, v_lt, v_le, v_gt, v_ge, v_eqi, v_nei, v_is, v_isNot, v_len, v_lenT, v_abs, v_int, v_item, v_itemT, v_list, v_max, v_min, v_repr, blD_bl, truD_bl, truD_lst, isF_int, isF_bl, isF_non, isF_tup, isF_str, isF_lf, isF_lk, isF_lo, isF_ll, at_0, at_1, at_2, ix_0, ix_1, ix_2, cap_i, cap_t, noL_i, noL_n, noL_b, noL_t, ck_0, ck_s, lk_0, lk_1, lk_2, lk_3, lk_4, ln_0, ln_1, ln_2, ln_3, ln_4, own_o, own_l, own_f, its_o, its_l, its_f, lend_o, lend_i, lend_b, lend_n, lend_s, lend_t, cap_k, cap_f, lend_l, lend_f, sh_o, sh_l, sh_f, sh_k, Bool.or_true, Bool.true_or, Bool.or_false, Bool.false_or, intD, isLst, lstO, List.set_cons_zero, List.set_cons_succ, bind_S, forL_0, kL_nx, kL_ct, kL_bk, kL_rt, tg_n, tg_t, tg_0, tg_s, wp_0, wp_s, bk_0, bk_s, rd_0, rd_s, sb_a, sb_l, si_a, si_l, hd_0, out_t, out_f, argD, ite_self, List.map_cons, List.map_nil, List.append_nil, List.cons_append, List.nil_append, Bool.and_true, Bool.true_and, Bool.not_true, Bool.not_false, Bool.and_false, Bool.false_and, true_and, and_true, decide_eq_true_eq, Bool.false_eq_true, if_false, if_true, ite_true, ite_false, reduceIte, Bool.not_eq_true', itemsOf_lst hm.1, hm.2]
  refine has_cmpF (fun q => decide (q.1 ≤ q.2 - k)) (fun q : Int × Int => (q.1, q.2 - k)) pr cap_pr xs (by omega) (fun s _ => ?_) ?_
  · simp only [pr, ct_shrunk_0, ce_shrunk_1, e_cst, e_nil, e_yes, e_var, e_fv, e_mv, e_cons, e_dfr, e_op, e_tup, e_lst, e_tr, e_notT, e_andT, e_orT, e_andV, e_orV, e_notV, e_opq, e_if, e_call, e_callM, e_chain, e_src, e_rng, e_lc, g_nx, g_retN, g_brk, g_cnt, g_seq, g_drop, g_ret, g_asg, g_if, g_for, g_app, g_set, kk_ok, kS_ok, kQ_nx, kQ_rt, kQ_bk, kQ_ct, has_some, sl_0, sl_s, st_0, st_s, v_add, v_sub, v_neg, v_lt, v_le, v_gt, v_ge, v_eqi, v_nei, v_is, v_isNot, v_len, v_lenT, v_abs, v_int, v_item, v_itemT, v_list, v_max, v_min, v_repr, blD_bl, truD_bl, truD_lst, isF_int, isF_bl, isF_non, isF_tup, isF_str, isF_lf, isF_lk, isF_lo, isF_ll, at_0, at_1, at_2, ix_0, ix_1, ix_2, cap_i, cap_t, noL_i, noL_n, noL_b, noL_t, ck_0, ck_s, lk_0, lk_1, lk_2, lk_3, lk_4, ln_0, ln_1, ln_2, ln_3, ln_4, own_o, own_l, own_f, its_o, its_l, its_f, lend_o, lend_i, lend_b, lend_n, lend_s, lend_t, cap_k, cap_f, lend_l, lend_f, sh_o, sh_l, sh_f, sh_k, Bool.or_true, Bool.true_or, Bool.or_false, Bool.false_or, intD, isLst, lstO, List.set_cons_zero, List.set_cons_succ, bind_S, forL_0, kL_nx, kL_ct, kL_bk, kL_rt, tg_n, tg_t, tg_0, tg_s, wp_0, wp_s, bk_0, bk_s, rd_0, rd_s, sb_a, sb_l, si_a, si_l, hd_0, out_t, out_f, argD, ite_self, List.map_cons, List.map_nil, List.append_nil, List.cons_append, List.nil_append, Bool.and_true, Bool.true_and, Bool.not_true, Bool.not_false, Bool.and_false, Bool.false_and, true_and, and_true, decide_eq_true_eq, Bool.false_eq_true, if_false, if_true, ite_true, ite_false, reduceIte, Bool.not_eq_true']
  · simp only [e_cst, e_nil, e_yes, e_var, e_fv, e_mv, e_cons, e_dfr, e_op, e_tup, e_lst, e_tr, e_notT, e_andT, e_orT, e_andV, e_orV, e_notV, e_opq, e_if, e_call, e_callM, e_chain, e_src, e_rng, e_lc, g_nx, g_retN, g_brk, g_cnt, g_seq, g_drop, g_ret, g_asg, g_if, g_for, g_app, g_set, kk_ok, kS_ok, kQ_nx, kQ_rt, kQ_bk, kQ_ct, has_some, sl_0, sl_s, st_0, st_s, v_add, v_sub, v_neg, v_lt, v_le, v_gt, v_ge, v_eqi, v_nei, v_is, v_isNot, v_len, v_lenT, v_abs, v_int, v_item, v_itemT, v_list, v_max, v_min, v_repr, blD_bl, truD_bl, truD_lst, isF_int, isF_bl, isF_non, isF_tup, isF_str, isF_lf, isF_lk, isF_lo, isF_ll, at_0, at_1, at_2, ix_0, ix_1, ix_2, cap_i, cap_t, noL_i, noL_n, noL_b, noL_t, ck_0, ck_s, lk_0, lk_1, lk_2, lk_3, lk_4, ln_0, ln_1, ln_2, ln_3, ln_4, own_o, own_l, own_f, its_o, its_l, its_f, lend_o, lend_i, lend_b, lend_n, lend_s, lend_t, cap_k, cap_f, lend_l, lend_f, sh_o, sh_l, sh_f, sh_k, Bool.or_true, Bool.true_or, Bool.or_false, Bool.false_or, intD, isLst, lstO, List.set_cons_zero, List.set_cons_succ, bind_S, forL_0, kL_nx, kL_ct, kL_bk, kL_rt, tg_n, tg_t, tg_0, tg_s, wp_0, wp_s, bk_0, bk_s, rd_0, rd_s, sb_a, sb_l, si_a, si_l, hd_0, out_t, out_f, argD, ite_self, List.map_cons, List.map_nil, List.append_nil, List.cons_append, List.nil_append, Bool.and_true, Bool.true_and, Bool.not_true, Bool.not_false, Bool.and_false, Bool.false_and, true_and, and_true, decide_eq_true_eq, Bool.false_eq_true, if_false, if_true, ite_true, ite_false, reduceIte, Bool.not_eq_true']
    rfl
def lengthP (xs : Sp) : Int := (xs.map fun q => q.2 - q.1 + 1).sum
theorem intsOf_map (xs : List Int) : intsOf (xs.map .int) = some xs := by
  induction xs with
  | nil => rfl
  | cons x r ih => rw [List.map_cons, intsOf, ih]; rfl
theorem sum_i {m : Fl} (xs : List Int) : gSum [miD m xs] = some (.int xs.sum) := by
  show (intsOf (xs.map .int)).map _ = _
  rw [intsOf_map]; rfl
theorem ok_length {m : Fl} (hm : RO m) (xs : Sp) (hl : xs.length ≤ 1000) : F_length [spD m xs] = some (.ok (.int (lengthP xs)), [none]) := by
  unfold F_length
  refine fn_go rfl ?_
  show Go ev_length [some (spD m xs), none, none] _
  simp only [ev_length, e_cst, e_nil, e_yes, e_var, e_fv, e_mv, e_cons, e_dfr, e_op, e_tup, e_lst, e_tr, e_notT, e_andT, e_orT, e_andV, e_orV, e_notV, e_opq, e_if, e_call, e_callM, e_chain, e_src, e_rng, e_lc, g_nx, g_retN, g_brk, g_cnt, g_seq, g_drop, g_ret, g_asg, g_if, g_for, g_app, g_set, kk_ok, kS_ok, kQ_nx, kQ_rt, kQ_bk, kQ_ct, has_some, sl_0, sl_s, st_0, st_s, v_add, v_sub, v_neg, v_lt, v_le, v_gt, v_ge, v_eqi, v_nei, v_is, v_isNot, v_len, v_lenT, v_abs, v_int, v_item, v_itemT, v_list, v_max, v_min, v_repr, blD_bl, truD_bl, truD_lst, isF_int, isF_bl, isF_non, isF_tup, isF_str, isF_lf, isF_lk, isF_lo, isF_ll, at_0, at_1, at_2, ix_0, ix_1, ix_2, cap_i, cap_t, noL_i, noL_n, noL_b, noL_t, ck_0, ck_s, lk_0, lk_1, lk_2, lk_3, lk_4, ln_0, ln_1, ln_2, ln_3, ln_4, own_o, own_l, own_f, its_o, its_l, its_f, lend_o, lend_i, lend_b, lend_n, lend_s, lend_t, cap_k, cap_f, lend_l, lend_f, sh_o, sh_l, sh_f, sh_k, Bool.or_true, Bool.true_or, Bool.or_false, Bool.false_or, intD, isLst, lstO, List.set_cons_zero, List.set_cons_succ, bind_S, forL_0, kL_nx, kL_ct, kL_bk, kL_rt, tg_n, tg_t, tg_0, tg_s, wp_0, wp_s, bk_0, bk_s, rd_0, rd_s, sb_a, sb_l, si_a, si_l, hd_0, out_t, out_f, argD, ite_self, List.map_cons, List.map_nil, List.append_nil, List.cons_append, List.nil_append, Bool.and_true, Bool.true_and, Bool.not_true, Bool.not_false, Bool.and_false, Bool.false_and, true_and, and_true, decide_eq_true_eq, Bool.false_eq_true, if_false, if_true, ite_true, ite_false, reduceIte, Bool.not_eq_true', itemsOf_lst hm.1, hm.2]
  refine has_cmpA (fun q : Int × Int => q.2 - q.1 + 1) .int (fun _ => rfl) xs (by omega) (fun s _ => ?_) ?_
  · simp only [pr, ct_length_0, ce_length_1, e_cst, e_nil, e_yes, e_var, e_fv, e_mv, e_cons, e_dfr, e_op, e_tup, e_lst, e_tr, e_notT, e_andT, e_orT, e_andV, e_orV, e_notV, e_opq, e_if, e_call, e_callM, e_chain, e_src, e_rng, e_lc, g_nx, g_retN, g_brk, g_cnt, g_seq, g_drop, g_ret, g_asg, g_if, g_for, g_app, g_set, kk_ok, kS_ok, kQ_nx, kQ_rt, kQ_bk, kQ_ct, has_some, sl_0, sl_s, st_0, st_s, v_add, v_sub, v_neg, v_lt, v_le, v_gt, v_ge, v_eqi, v_nei, v_is, v_isNot, v_len, v_lenT, v_abs, v_int, v_item, v_itemT, v_list, v_max, v_min, v_repr, blD_bl, truD_bl, truD_lst, isF_int, isF_bl, isF_non, isF_tup, isF_str, isF_lf, isF_lk, isF_lo, isF_ll, at_0, at_1, at_2, ix_0, ix_1, ix_2, cap_i, cap_t, noL_i, noL_n, noL_b, noL_t, ck_0, ck_s, lk_0, lk_1, lk_2, lk_3, lk_4, ln_0, ln_1, ln_2, ln_3, ln_4, own_o, own_l, own_f, its_o, its_l, its_f, lend_o, lend_i, lend_b, lend_n, lend_s, lend_t, cap_k, cap_f, lend_l, lend_f, sh_o, sh_l, sh_f, sh_k, Bool.or_true, Bool.true_or, Bool.or_false, Bool.false_or, intD, isLst, lstO, List.set_cons_zero, List.set_cons_succ, bind_S, forL_0, kL_nx, kL_ct, kL_bk, kL_rt, tg_n, tg_t, tg_0, tg_s, wp_0, wp_s, bk_0, bk_s, rd_0, rd_s, sb_a, sb_l, si_a, si_l, hd_0, out_t, out_f, argD, ite_self, List.map_cons, List.map_nil, List.append_nil, List.cons_append, List.nil_append, Bool.and_true, Bool.true_and, Bool.not_true, Bool.not_false, Bool.and_false, Bool.false_and, true_and, and_true, decide_eq_true_eq, Bool.false_eq_true, if_false, if_true, ite_true, ite_false, reduceIte, Bool.not_eq_true']
  · simp only [e_cst, e_nil, e_yes, e_var, e_fv, e_mv, e_cons, e_dfr, e_op, e_tup, e_lst, e_tr, e_notT, e_andT, e_orT, e_andV, e_orV, e_notV, e_opq, e_if, e_call, e_callM, e_chain, e_src, e_rng, e_lc, g_nx, g_retN, g_brk, g_cnt, g_seq, g_drop, g_ret, g_asg, g_if, g_for, g_app, g_set, kk_ok, kS_ok, kQ_nx, kQ_rt, kQ_bk, kQ_ct, has_some, sl_0, sl_s, st_0, st_s, v_add, v_sub, v_neg, v_lt, v_le, v_gt, v_ge, v_eqi, v_nei, v_is, v_isNot, v_len, v_lenT, v_abs, v_int, v_item, v_itemT, v_list, v_max, v_min, v_repr, blD_bl, truD_bl, truD_lst, isF_int, isF_bl, isF_non, isF_tup, isF_str, isF_lf, isF_lk, isF_lo, isF_ll, at_0, at_1, at_2, ix_0, ix_1, ix_2, cap_i, cap_t, noL_i, noL_n, noL_b, noL_t, ck_0, ck_s, lk_0, lk_1, lk_2, lk_3, lk_4, ln_0, ln_1, ln_2, ln_3, ln_4, own_o, own_l, own_f, its_o, its_l, its_f, lend_o, lend_i, lend_b, lend_n, lend_s, lend_t, cap_k, cap_f, lend_l, lend_f, sh_o, sh_l, sh_f, sh_k, Bool.or_true, Bool.true_or, Bool.or_false, Bool.false_or, intD, isLst, lstO, List.set_cons_zero, List.set_cons_succ, bind_S, forL_0, kL_nx, kL_ct, kL_bk, kL_rt, tg_n, tg_t, tg_0, tg_s, wp_0, wp_s, bk_0, bk_s, rd_0, rd_s, sb_a, sb_l, si_a, si_l, hd_0, out_t, out_f, argD, ite_self, List.map_cons, List.map_nil, List.append_nil, List.cons_append, List.nil_append, Bool.and_true, Bool.true_and, Bool.not_true, Bool.not_false, Bool.and_false, Bool.false_and, true_and, and_true, decide_eq_true_eq, Bool.false_eq_true, if_false, if_true, ite_true, ite_false, reduceIte, Bool.not_eq_true', sum_i]
    rfl
def nthP : Sp → Int → Option Int
  | [], _ => none
  | q :: r, k => if k ≤ q.2 - q.1 then some (q.1 + k) else nthP r (k - (q.2 - q.1 + 1))
theorem lp_nth2 {s s1 : Option D} {K : ES → Prop} : ∀ (xs : Sp) (k : Int) (a b : Option D), (∀ c a b, K (match nthP xs k with | some v => (.rt (.int v), [s, s1, c, a, b]) | none => (.nx, [s, s1, c, a, b]))) → has (evForL (tgTup [3, 4]) bd_nth_0 (xs.map pr) [s, s1, some (.int k), a, b]) K
  | [], k, a, b, h => by simp only [e_cst, e_nil, e_yes, e_var, e_fv, e_mv, e_cons, e_dfr, e_op, e_tup, e_lst, e_tr, e_notT, e_andT, e_orT, e_andV, e_orV, e_notV, e_opq, e_if, e_call, e_callM, e_chain, e_src, e_rng, e_lc, g_nx, g_retN, g_brk, g_cnt, g_seq, g_drop, g_ret, g_asg, g_if, g_for, g_app, g_set, kk_ok, kS_ok, kQ_nx, kQ_rt, kQ_bk, kQ_ct, has_some, sl_0, sl_s, st_0, st_s, v_add, v_sub, v_neg, v_lt, v_le, v_gt, v_ge, v_eqi, v_nei, v_is, v_isNot, v_len, v_lenT, v_abs, v_int, v_item, v_itemT, v_list, v_max, v_min, v_repr, blD_bl, truD_bl, truD_lst, isF_int, isF_bl, isF_non, isF_tup, isF_str, isF_lf, isF_lk, isF_lo, isF_ll, at_0, at_1, at_2, ix_0, ix_1, ix_2, cap_i, cap_t, noL_i, noL_n, noL_b, noL_t, ck_0, ck_s, lk_0, lk_1, lk_2, lk_3, lk_4, ln_0, ln_1, ln_2, ln_3, ln_4, own_o, own_l, own_f, its_o, its_l, its_f, lend_o, lend_i, lend_b, lend_n, lend_s, lend_t, cap_k, cap_f, lend_l, lend_f, sh_o, sh_l, sh_f, sh_k, Bool.or_true, Bool.true_or, Bool.or_false, Bool.false_or, intD, isLst, lstO, List.set_cons_zero, List.set_cons_succ, bind_S, forL_0, kL_nx, kL_ct, kL_bk, kL_rt, tg_n, tg_t, tg_0, tg_s, wp_0, wp_s, bk_0, bk_s, rd_0, rd_s, sb_a, sb_l, si_a, si_l, hd_0, out_t, out_f, argD, ite_self, List.map_cons, List.map_nil, List.append_nil, List.cons_append, List.nil_append, Bool.and_true, Bool.true_and, Bool.not_true, Bool.not_false, Bool.and_false, Bool.false_and, true_and, and_true, decide_eq_true_eq, Bool.false_eq_true, if_false, if_true, ite_true, ite_false, reduceIte, Bool.not_eq_true']; exact h _ a b
  | q :: r, k, a, b, h => by
    simp only [List.map_cons, forL_s, pr, bd_nth_0, e_cst, e_nil, e_yes, e_var, e_fv, e_mv, e_cons, e_dfr, e_op, e_tup, e_lst, e_tr, e_notT, e_andT, e_orT, e_andV, e_orV, e_notV, e_opq, e_if, e_call, e_callM, e_chain, e_src, e_rng, e_lc, g_nx, g_retN, g_brk, g_cnt, g_seq, g_drop, g_ret, g_asg, g_if, g_for, g_app, g_set, kk_ok, kS_ok, kQ_nx, kQ_rt, kQ_bk, kQ_ct, has_some, sl_0, sl_s, st_0, st_s, v_add, v_sub, v_neg, v_lt, v_le, v_gt, v_ge, v_eqi, v_nei, v_is, v_isNot, v_len, v_lenT, v_abs, v_int, v_item, v_itemT, v_list, v_max, v_min, v_repr, blD_bl, truD_bl, truD_lst, isF_int, isF_bl, isF_non, isF_tup, isF_str, isF_lf, isF_lk, isF_lo, isF_ll, at_0, at_1, at_2, ix_0, ix_1, ix_2, cap_i, cap_t, noL_i, noL_n, noL_b, noL_t, ck_0, ck_s, lk_0, lk_1, lk_2, lk_3, lk_4, ln_0, ln_1, ln_2, ln_3, ln_4, own_o, own_l, own_f, its_o, its_l, its_f, lend_o, lend_i, lend_b, lend_n, lend_s, lend_t, cap_k, cap_f, lend_l, lend_f, sh_o, sh_l, sh_f, sh_k, Bool.or_true, Bool.true_or, Bool.or_false, Bool.false_or, intD, isLst, lstO, List.set_cons_zero, List.set_cons_succ, bind_S, forL_0, kL_nx, kL_ct, kL_bk, kL_rt, tg_n, tg_t, tg_0, tg_s, wp_0, wp_s, bk_0, bk_s, rd_0, rd_s, sb_a, sb_l, si_a, si_l, hd_0, out_t, out_f, argD, ite_self, List.map_cons, List.map_nil, List.append_nil, List.cons_append, List.nil_append, Bool.and_true, Bool.true_and, Bool.not_true, Bool.not_false, Bool.and_false, Bool.false_and, true_and, and_true, decide_eq_true_eq, Bool.false_eq_true, if_false, if_true, ite_true, ite_false, reduceIte, Bool.not_eq_true']
    by_cases h1 : k ≤ q.2 - q.1 <;> simp only [h1, e_cst, e_nil, e_yes, e_var, e_fv, e_mv, e_cons, e_dfr, e_op, e_tup, e_lst, e_tr, e_notT, e_andT, e_orT, e_andV, e_orV, e_notV, e_opq, e_if, e_call, e_callM, e_chain, e_src, e_rng, e_lc, g_nx, g_retN, g_brk, g_cnt, g_seq, g_drop, g_ret, g_asg, g_if, g_for, g_app, g_set, kk_ok, kS_ok, kQ_nx, kQ_rt, kQ_bk, kQ_ct, has_some, sl_0, sl_s, st_0, st_s, v_add, v_sub, v_neg, v_lt, v_le, v_gt, v_ge, v_eqi, v_nei, v_is, v_isNot, v_len, v_lenT, v_abs, v_int, v_item, v_itemT, v_list, v_max, v_min, v_repr, blD_bl, truD_bl, truD_lst, isF_int, isF_bl, isF_non, isF_tup, isF_str, isF_lf, isF_lk, isF_lo, isF_ll, at_0, at_1, at_2, ix_0, ix_1, ix_2, cap_i, cap_t, noL_i, noL_n, noL_b, noL_t, ck_0, ck_s, lk_0, lk_1, lk_2, lk_3, lk_4, ln_0, ln_1, ln_2, ln_3, ln_4, own_o, own_l, own_f, its_o, its_l, its_f, lend_o, lend_i, lend_b, lend_n, lend_s, lend_t, cap_k, cap_f, lend_l, lend_f, sh_o, sh_l, sh_f, sh_k, Bool.or_true, Bool.true_or, Bool.or_false, Bool.false_or, intD, isLst, lstO, List.set_cons_zero, List.set_cons_succ, bind_S, forL_0, kL_nx, kL_ct, kL_bk, kL_rt, tg_n, tg_t, tg_0, tg_s, wp_0, wp_s, bk_0, bk_s, rd_0, rd_s, sb_a, sb_l, si_a, si_l, hd_0, out_t, out_f, argD, ite_self, List.map_cons, List.map_nil, List.append_nil, List.cons_append, List.nil_append, Bool.and_true, Bool.true_and, Bool.not_true, Bool.not_false, Bool.and_false, Bool.false_and, true_and, and_true, decide_eq_true_eq, Bool.false_eq_true, if_false, if_true, ite_true, ite_false, reduceIte, Bool.not_eq_true'] <;> simp only [nthP, h1, ite_true, ite_false, if_true, if_false] at h
    · exact h _ _ _
    · exact lp_nth2 r _ _ _ h
theorem ok_nth {m : Fl} (hm : RO m) (xs : Sp) (k : Int) : F_nth [spD m xs, .int k] = some (.ok (oi (nthP xs k)), [none, none]) := by
  unfold F_nth
  refine fn_go rfl ?_
  show Go ev_nth [some (spD m xs), some (.int k), none, none, none] _
  simp only [ev_nth, e_cst, e_nil, e_yes, e_var, e_fv, e_mv, e_cons, e_dfr, e_op, e_tup, e_lst, e_tr, e_notT, e_andT, e_orT, e_andV, e_orV, e_notV, e_opq, e_if, e_call, e_callM, e_chain, e_src, e_rng, e_lc, g_nx, g_retN, g_brk, g_cnt, g_seq, g_drop, g_ret, g_asg, g_if, g_for, g_app, g_set, kk_ok, kS_ok, kQ_nx, kQ_rt, kQ_bk, kQ_ct, has_some, sl_0, sl_s, st_0, st_s, v_add, v_sub, v_neg, v_lt, v_le, v_gt, v_ge, v_eqi, v_nei, v_is, v_isNot, v_len, v_lenT, v_abs, v_int, v_item, v_itemT, v_list, v_max, v_min, v_repr, blD_bl, truD_bl, truD_lst, isF_int, isF_bl, isF_non, isF_tup, isF_str, isF_lf, isF_lk, isF_lo, isF_ll, at_0, at_1, at_2, ix_0, ix_1, ix_2, cap_i, cap_t, noL_i, noL_n, noL_b, noL_t, ck_0, ck_s, lk_0, lk_1, lk_2, lk_3, lk_4, ln_0, ln_1, ln_2, ln_3, ln_4, own_o, own_l, own_f, its_o, its_l, its_f, lend_o, lend_i, lend_b, lend_n, lend_s, lend_t, cap_k, cap_f, lend_l, lend_f, sh_o, sh_l, sh_f, sh_k, Bool.or_true, Bool.true_or, Bool.or_false, Bool.false_or, intD, isLst, lstO, List.set_cons_zero, List.set_cons_succ, bind_S, forL_0, kL_nx, kL_ct, kL_bk, kL_rt, tg_n, tg_t, tg_0, tg_s, wp_0, wp_s, bk_0, bk_s, rd_0, rd_s, sb_a, sb_l, si_a, si_l, hd_0, out_t, out_f, argD, ite_self, List.map_cons, List.map_nil, List.append_nil, List.cons_append, List.nil_append, Bool.and_true, Bool.true_and, Bool.not_true, Bool.not_false, Bool.and_false, Bool.false_and, true_and, and_true, decide_eq_true_eq, Bool.false_eq_true, if_false, if_true, ite_true, ite_false, reduceIte, Bool.not_eq_true', itemsOf_lst hm.1, hm.2]
  refine lp_nth2 xs k none none fun c a b => ?_
  cases nthP xs k <;> simp only [e_cst, e_nil, e_yes, e_var, e_fv, e_mv, e_cons, e_dfr, e_op, e_tup, e_lst, e_tr, e_notT, e_andT, e_orT, e_andV, e_orV, e_notV, e_opq, e_if, e_call, e_callM, e_chain, e_src, e_rng, e_lc, g_nx, g_retN, g_brk, g_cnt, g_seq, g_drop, g_ret, g_asg, g_if, g_for, g_app, g_set, kk_ok, kS_ok, kQ_nx, kQ_rt, kQ_bk, kQ_ct, has_some, sl_0, sl_s, st_0, st_s, v_add, v_sub, v_neg, v_lt, v_le, v_gt, v_ge, v_eqi, v_nei, v_is, v_isNot, v_len, v_lenT, v_abs, v_int, v_item, v_itemT, v_list, v_max, v_min, v_repr, blD_bl, truD_bl, truD_lst, isF_int, isF_bl, isF_non, isF_tup, isF_str, isF_lf, isF_lk, isF_lo, isF_ll, at_0, at_1, at_2, ix_0, ix_1, ix_2, cap_i, cap_t, noL_i, noL_n, noL_b, noL_t, ck_0, ck_s, lk_0, lk_1, lk_2, lk_3, lk_4, ln_0, ln_1, ln_2, ln_3, ln_4, own_o, own_l, own_f, its_o, its_l, its_f, lend_o, lend_i, lend_b, lend_n, lend_s, lend_t, cap_k, cap_f, lend_l, lend_f, sh_o, sh_l, sh_f, sh_k, Bool.or_true, Bool.true_or, Bool.or_false, Bool.false_or, intD, isLst, lstO, List.set_cons_zero, List.set_cons_succ, bind_S, forL_0, kL_nx, kL_ct, kL_bk, kL_rt, tg_n, tg_t, tg_0, tg_s, wp_0, wp_s, bk_0, bk_s, rd_0, rd_s, sb_a, sb_l, si_a, si_l, hd_0, out_t, out_f, argD, ite_self, List.map_cons, List.map_nil, List.append_nil, List.cons_append, List.nil_append, Bool.and_true, Bool.true_and, Bool.not_true, Bool.not_false, Bool.and_false, Bool.false_and, true_and, and_true, decide_eq_true_eq, Bool.false_eq_true, if_false, if_true, ite_true, ite_false, reduceIte, Bool.not_eq_true'] <;> rfl
def rankP (xs : Sp) (t : Int) : Int := if 0 < t then lengthP (meetP xs [(0, t - 1)]) else 0
theorem meetP_len : ∀ xs o : Sp, (meetP xs o).length ≤ xs.length * o.length
  | [], o => by simp [meetP]
  | q :: r, o => by
    have := meetIn_len q.1 q.2 o
    have := meetP_len r o
    rw [meetP, List.length_append, List.length_cons, Nat.succ_mul]; omega
theorem ok_rank {m : Fl} (hm : RO m) (xs : Sp) (t : Int) (hl : xs.length ≤ 1000) : F_rank [spD m xs, .int t] = some (.ok (.int (rankP xs t)), [none, none]) := by
  unfold F_rank
  refine fn_go rfl ?_
  show Go ev_rank [some (spD m xs), some (.int t)] _
  have lm : lend (spD m xs) = spD m xs := by
    have h1 := hm.1; have h2 := hm.2 []
    cases m <;> first | rfl | exact absurd h1 (by decide) | exact absurd h2 (by decide)
  have c : cap (.lst .o [.tup [.int 0, .int (t - 1)]]) = spD .f [(0, t - 1)] := rfl
  have em := ok_meet hm RO.f xs [(0, t - 1)] (by simp; omega)
  have c2 : cap (spD .o (meetP xs [(0, t - 1)])) = spD .f (meetP xs [(0, t - 1)]) := rfl
  have el := ok_length RO.f (meetP xs [(0, t - 1)]) (by have := meetP_len xs [(0, t - 1)]; simp at this; omega)
  unfold rankP
  by_cases h1 : 0 < t <;> simp only [ev_rank, e_cst, e_nil, e_yes, e_var, e_fv, e_mv, e_cons, e_dfr, e_op, e_tup, e_lst, e_tr, e_notT, e_andT, e_orT, e_andV, e_orV, e_notV, e_opq, e_if, e_call, e_callM, e_chain, e_src, e_rng, e_lc, g_nx, g_retN, g_brk, g_cnt, g_seq, g_drop, g_ret, g_asg, g_if, g_for, g_app, g_set, kk_ok, kS_ok, kQ_nx, kQ_rt, kQ_bk, kQ_ct, has_some, sl_0, sl_s, st_0, st_s, v_add, v_sub, v_neg, v_lt, v_le, v_gt, v_ge, v_eqi, v_nei, v_is, v_isNot, v_len, v_lenT, v_abs, v_int, v_item, v_itemT, v_list, v_max, v_min, v_repr, blD_bl, truD_bl, truD_lst, isF_int, isF_bl, isF_non, isF_tup, isF_str, isF_lf, isF_lk, isF_lo, isF_ll, at_0, at_1, at_2, ix_0, ix_1, ix_2, cap_i, cap_t, noL_i, noL_n, noL_b, noL_t, ck_0, ck_s, lk_0, lk_1, lk_2, lk_3, lk_4, ln_0, ln_1, ln_2, ln_3, ln_4, own_o, own_l, own_f, its_o, its_l, its_f, lend_o, lend_i, lend_b, lend_n, lend_s, lend_t, cap_k, cap_f, lend_l, lend_f, sh_o, sh_l, sh_f, sh_k, Bool.or_true, Bool.true_or, Bool.or_false, Bool.false_or, intD, isLst, lstO, List.set_cons_zero, List.set_cons_succ, bind_S, forL_0, kL_nx, kL_ct, kL_bk, kL_rt, tg_n, tg_t, tg_0, tg_s, wp_0, wp_s, bk_0, bk_s, rd_0, rd_s, sb_a, sb_l, si_a, si_l, hd_0, out_t, out_f, argD, ite_self, List.map_cons, List.map_nil, List.append_nil, List.cons_append, List.nil_append, Bool.and_true, Bool.true_and, Bool.not_true, Bool.not_false, Bool.and_false, Bool.false_and, true_and, and_true, decide_eq_true_eq, Bool.false_eq_true, if_false, if_true, ite_true, ite_false, reduceIte, Bool.not_eq_true', h1, lm, c, em, c2, el]
  · rfl
  · rfl
end K11
namespace K11
open PySem PD
theorem eq_p {m n : Fl} (xs ys : Sp) : gEq [spD m xs, spD n ys] = some (.bl (decide (xs = ys))) := v_eqL (f := pr) eqD_p (dp_p 58)
theorem ne_p {m n : Fl} (xs ys : Sp) : gNe [spD m xs, spD n ys] = some (.bl (!decide (xs = ys))) := v_neL (f := pr) eqD_p (dp_p 58)
theorem ne_pn {m n : Fl} (xs : Sp) : gNe [spD m xs, .lst n []] = some (.bl (!decide (xs = []))) := v_neNil (f := pr) eqD_p (dp_p 58)
theorem eq_i {m n : Fl} (xs ys : List Int) : gEq [miD m xs, miD n ys] = some (.bl (decide (xs = ys))) := v_eqL (f := .int) eqD_i (fun _ => by simp [dp])
theorem ne_i {m n : Fl} (xs ys : List Int) : gNe [miD m xs, miD n ys] = some (.bl (!decide (xs = ys))) := v_neL (f := .int) eqD_i (fun _ => by simp [dp])
theorem ne_in {m n : Fl} (xs : List Int) : gNe [miD m xs, .lst n []] = some (.bl (!decide (xs = []))) := v_neNil (f := .int) eqD_i (fun _ => by simp [dp])
theorem ok_spans_of {m : Fl} (hm : RO m) (xs : List Int) (hl : xs.length ≤ 1000) : F_spans_of [miD m xs] = some (.ok (spD .o (tidyP (xs.map fun t => (t, t)))), [none]) := by
  unfold F_spans_of
  refine fn_go rfl ?_
  show Go ev_spans_of [some (miD m xs), none] _
  simp only [ev_spans_of, e_cst, e_nil, e_yes, e_var, e_fv, e_mv, e_cons, e_dfr, e_op, e_tup, e_lst, e_tr, e_notT, e_andT, e_orT, e_andV, e_orV, e_notV, e_opq, e_if, e_call, e_callM, e_chain, e_src, e_rng, e_lc, g_nx, g_retN, g_brk, g_cnt, g_seq, g_drop, g_ret, g_asg, g_if, g_for, g_app, g_set, kk_ok, kS_ok, kQ_nx, kQ_rt, kQ_bk, kQ_ct, has_some, sl_0, sl_s, st_0, st_s, v_add, v_sub, v_neg, v_lt, v_le, v_gt, v_ge, v_eqi, v_nei, v_is, v_isNot, v_len, v_lenT, v_abs, v_int, v_item, v_itemT, v_list, v_max, v_min, v_repr, blD_bl, truD_bl, truD_lst, isF_int, isF_bl, isF_non, isF_tup, isF_str, isF_lf, isF_lk, isF_lo, isF_ll, at_0, at_1, at_2, ix_0, ix_1, ix_2, cap_i, cap_t, noL_i, noL_n, noL_b, noL_t, ck_0, ck_s, lk_0, lk_1, lk_2, lk_3, lk_4, ln_0, ln_1, ln_2, ln_3, ln_4, own_o, own_l, own_f, its_o, its_l, its_f, lend_o, lend_i, lend_b, lend_n, lend_s, lend_t, cap_k, cap_f, lend_l, lend_f, sh_o, sh_l, sh_f, sh_k, Bool.or_true, Bool.true_or, Bool.or_false, Bool.false_or, intD, isLst, lstO, List.set_cons_zero, List.set_cons_succ, bind_S, forL_0, kL_nx, kL_ct, kL_bk, kL_rt, tg_n, tg_t, tg_0, tg_s, wp_0, wp_s, bk_0, bk_s, rd_0, rd_s, sb_a, sb_l, si_a, si_l, hd_0, out_t, out_f, argD, ite_self, List.map_cons, List.map_nil, List.append_nil, List.cons_append, List.nil_append, Bool.and_true, Bool.true_and, Bool.not_true, Bool.not_false, Bool.and_false, Bool.false_and, true_and, and_true, decide_eq_true_eq, Bool.false_eq_true, if_false, if_true, ite_true, ite_false, reduceIte, Bool.not_eq_true', itemsOf_lst hm.1, hm.2]
  refine has_cmpA (fun t : Int => (t, t)) pr cap_pr xs (by omega) (fun s _ => ?_) ?_
  · simp only [pr, ct_spans_of_0, ce_spans_of_1, e_cst, e_nil, e_yes, e_var, e_fv, e_mv, e_cons, e_dfr, e_op, e_tup, e_lst, e_tr, e_notT, e_andT, e_orT, e_andV, e_orV, e_notV, e_opq, e_if, e_call, e_callM, e_chain, e_src, e_rng, e_lc, g_nx, g_retN, g_brk, g_cnt, g_seq, g_drop, g_ret, g_asg, g_if, g_for, g_app, g_set, kk_ok, kS_ok, kQ_nx, kQ_rt, kQ_bk, kQ_ct, has_some, sl_0, sl_s, st_0, st_s, v_add, v_sub, v_neg, v_lt, v_le, v_gt, v_ge, v_eqi, v_nei, v_is, v_isNot, v_len, v_lenT, v_abs, v_int, v_item, v_itemT, v_list, v_max, v_min, v_repr, blD_bl, truD_bl, truD_lst, isF_int, isF_bl, isF_non, isF_tup, isF_str, isF_lf, isF_lk, isF_lo, isF_ll, at_0, at_1, at_2, ix_0, ix_1, ix_2, cap_i, cap_t, noL_i, noL_n, noL_b, noL_t, ck_0, ck_s, lk_0, lk_1, lk_2, lk_3, lk_4, ln_0, ln_1, ln_2, ln_3, ln_4, own_o, own_l, own_f, its_o, its_l, its_f, lend_o, lend_i, lend_b, lend_n, lend_s, lend_t, cap_k, cap_f, lend_l, lend_f, sh_o, sh_l, sh_f, sh_k, Bool.or_true, Bool.true_or, Bool.or_false, Bool.false_or, intD, isLst, lstO, List.set_cons_zero, List.set_cons_succ, bind_S, forL_0, kL_nx, kL_ct, kL_bk, kL_rt, tg_n, tg_t, tg_0, tg_s, wp_0, wp_s, bk_0, bk_s, rd_0, rd_s, sb_a, sb_l, si_a, si_l, hd_0, out_t, out_f, argD, ite_self, List.map_cons, List.map_nil, List.append_nil, List.cons_append, List.nil_append, Bool.and_true, Bool.true_and, Bool.not_true, Bool.not_false, Bool.and_false, Bool.false_and, true_and, and_true, decide_eq_true_eq, Bool.false_eq_true, if_false, if_true, ite_true, ite_false, reduceIte, Bool.not_eq_true']
  · have c : cap (spD .o (xs.map fun t => (t, t))) = spD .f (xs.map fun t => (t, t)) := rfl
    have e := ok_tidy (m := .f) rfl (xs.map fun t => (t, t)) (by simp; omega)
    simp only [e_cst, e_nil, e_yes, e_var, e_fv, e_mv, e_cons, e_dfr, e_op, e_tup, e_lst, e_tr, e_notT, e_andT, e_orT, e_andV, e_orV, e_notV, e_opq, e_if, e_call, e_callM, e_chain, e_src, e_rng, e_lc, g_nx, g_retN, g_brk, g_cnt, g_seq, g_drop, g_ret, g_asg, g_if, g_for, g_app, g_set, kk_ok, kS_ok, kQ_nx, kQ_rt, kQ_bk, kQ_ct, has_some, sl_0, sl_s, st_0, st_s, v_add, v_sub, v_neg, v_lt, v_le, v_gt, v_ge, v_eqi, v_nei, v_is, v_isNot, v_len, v_lenT, v_abs, v_int, v_item, v_itemT, v_list, v_max, v_min, v_repr, blD_bl, truD_bl, truD_lst, isF_int, isF_bl, isF_non, isF_tup, isF_str, isF_lf, isF_lk, isF_lo, isF_ll, at_0, at_1, at_2, ix_0, ix_1, ix_2, cap_i, cap_t, noL_i, noL_n, noL_b, noL_t, ck_0, ck_s, lk_0, lk_1, lk_2, lk_3, lk_4, ln_0, ln_1, ln_2, ln_3, ln_4, own_o, own_l, own_f, its_o, its_l, its_f, lend_o, lend_i, lend_b, lend_n, lend_s, lend_t, cap_k, cap_f, lend_l, lend_f, sh_o, sh_l, sh_f, sh_k, Bool.or_true, Bool.true_or, Bool.or_false, Bool.false_or, intD, isLst, lstO, List.set_cons_zero, List.set_cons_succ, bind_S, forL_0, kL_nx, kL_ct, kL_bk, kL_rt, tg_n, tg_t, tg_0, tg_s, wp_0, wp_s, bk_0, bk_s, rd_0, rd_s, sb_a, sb_l, si_a, si_l, hd_0, out_t, out_f, argD, ite_self, List.map_cons, List.map_nil, List.append_nil, List.cons_append, List.nil_append, Bool.and_true, Bool.true_and, Bool.not_true, Bool.not_false, Bool.and_false, Bool.false_and, true_and, and_true, decide_eq_true_eq, Bool.false_eq_true, if_false, if_true, ite_true, ite_false, reduceIte, Bool.not_eq_true', c, e]
    rfl
theorem ok_within {m n : Fl} (hm : RO m) (hn : RO n) (xs ys : Sp) (hl : xs.length * ys.length ≤ 900000) : F_within [spD m xs, spD n ys] = some (.ok (.bl (decide (meetP xs ys = xs))), [none, none]) := by
  unfold F_within
  refine fn_go rfl ?_
  show Go ev_within [some (spD m xs), some (spD n ys)] _
  have lm : ∀ {m : Fl}, RO m → ∀ zs, lend (spD m zs) = spD m zs := fun {m} hm zs => by
    have h1 := hm.1; have h2 := hm.2 []
    cases m <;> first | rfl | exact absurd h1 (by decide) | exact absurd h2 (by decide)
  have em := ok_meet hm hn xs ys hl
  simp only [ev_within, e_cst, e_nil, e_yes, e_var, e_fv, e_mv, e_cons, e_dfr, e_op, e_tup, e_lst, e_tr, e_notT, e_andT, e_orT, e_andV, e_orV, e_notV, e_opq, e_if, e_call, e_callM, e_chain, e_src, e_rng, e_lc, g_nx, g_retN, g_brk, g_cnt, g_seq, g_drop, g_ret, g_asg, g_if, g_for, g_app, g_set, kk_ok, kS_ok, kQ_nx, kQ_rt, kQ_bk, kQ_ct, has_some, sl_0, sl_s, st_0, st_s, v_add, v_sub, v_neg, v_lt, v_le, v_gt, v_ge, v_eqi, v_nei, v_is, v_isNot, v_len, v_lenT, v_abs, v_int, v_item, v_itemT, v_list, v_max, v_min, v_repr, blD_bl, truD_bl, truD_lst, isF_int, isF_bl, isF_non, isF_tup, isF_str, isF_lf, isF_lk, isF_lo, isF_ll, at_0, at_1, at_2, ix_0, ix_1, ix_2, cap_i, cap_t, noL_i, noL_n, noL_b, noL_t, ck_0, ck_s, lk_0, lk_1, lk_2, lk_3, lk_4, ln_0, ln_1, ln_2, ln_3, ln_4, own_o, own_l, own_f, its_o, its_l, its_f, lend_o, lend_i, lend_b, lend_n, lend_s, lend_t, cap_k, cap_f, lend_l, lend_f, sh_o, sh_l, sh_f, sh_k, Bool.or_true, Bool.true_or, Bool.or_false, Bool.false_or, intD, isLst, lstO, List.set_cons_zero, List.set_cons_succ, bind_S, forL_0, kL_nx, kL_ct, kL_bk, kL_rt, tg_n, tg_t, tg_0, tg_s, wp_0, wp_s, bk_0, bk_s, rd_0, rd_s, sb_a, sb_l, si_a, si_l, hd_0, out_t, out_f, argD, ite_self, List.map_cons, List.map_nil, List.append_nil, List.cons_append, List.nil_append, Bool.and_true, Bool.true_and, Bool.not_true, Bool.not_false, Bool.and_false, Bool.false_and, true_and, and_true, decide_eq_true_eq, Bool.false_eq_true, if_false, if_true, ite_true, ite_false, reduceIte, Bool.not_eq_true', lm hm, lm hn, em, hm.1, eq_p]
  rfl
/-! sets of minutes -/
def mins (lo : Int) (n : Nat) : List Int := (List.range n).map fun k => lo + (k : Nat)
theorem rng2_i (i j : Int) (h : -(2 ^ 62) ≤ i ∧ i < 2 ^ 62 ∧ -(2 ^ 62) ≤ j ∧ j < 2 ^ 62) : rng2Of [.int i, .int j] = some ((mins i (j - i).toNat).map .int) := by
  show (if _ then some (upto i (j - i).toNat) else none) = _
  rw [if_pos h]
  unfold upto mins
  rw [List.map_map]; rfl
theorem rng1_i (j : Int) (h : -(2 ^ 62) ≤ j ∧ j < 2 ^ 62) : rng1Of [.int j] = some ((mins 0 j.toNat).map .int) := by
  show (if _ then some (upto 0 j.toNat) else none) = _
  rw [if_pos h]
  unfold upto mins
  rw [List.map_map]; rfl
def setP (xs : Sp) : List Int := (mins (-60) 190).filter fun t => inP xs t
theorem mins_len (i : Int) (n : Nat) : (mins i n).length = n := by simp [mins]
theorem any_len (xs : Sp) (t : Int) : decide (0 < (((xs.filter fun q => decide (q.1 ≤ t) && decide (t ≤ q.2)).map pr).length : Int)) = inP xs t := by
  rw [Bool.eq_iff_iff, decide_eq_true_eq, List.length_map]
  unfold inP
  rw [List.any_eq_true]
  constructor
  · intro h
    obtain ⟨q, hq⟩ := List.exists_mem_of_length_pos (l := xs.filter fun q => decide (q.1 ≤ t) && decide (t ≤ q.2)) (by omega)
    rw [List.mem_filter] at hq
    exact ⟨q, hq⟩
  · rintro ⟨q, h1, h2⟩
    have : q ∈ xs.filter fun q => decide (q.1 ≤ t) && decide (t ≤ q.2) := List.mem_filter.mpr ⟨h1, h2⟩
    have := List.length_pos_of_mem this
    omega
theorem cap_i' (i : Int) : cap (.int i) = .int i := rfl
theorem ok_set {m : Fl} (hm : RO m) (xs : Sp) (hl : xs.length ≤ 1000) : F__law_set [spD m xs] = some (.ok (miD .o (setP xs)), [none]) := by
  unfold F__law_set
  refine fn_go rfl ?_
  show Go ev__law_set [some (spD m xs), none, none] _
  have e := rng2_i (0 - 60) 130 (by decide)
  have e2 : (mins (0 - 60) (130 - (0 - 60) : Int).toNat) = mins (-60) 190 := rfl
  rw [e2] at e
  simp only [ev__law_set, e_cst, e_nil, e_yes, e_var, e_fv, e_mv, e_cons, e_dfr, e_op, e_tup, e_lst, e_tr, e_notT, e_andT, e_orT, e_andV, e_orV, e_notV, e_opq, e_if, e_call, e_callM, e_chain, e_src, e_rng, e_lc, g_nx, g_retN, g_brk, g_cnt, g_seq, g_drop, g_ret, g_asg, g_if, g_for, g_app, g_set, kk_ok, kS_ok, kQ_nx, kQ_rt, kQ_bk, kQ_ct, has_some, sl_0, sl_s, st_0, st_s, v_add, v_sub, v_neg, v_lt, v_le, v_gt, v_ge, v_eqi, v_nei, v_is, v_isNot, v_len, v_lenT, v_abs, v_int, v_item, v_itemT, v_list, v_max, v_min, v_repr, blD_bl, truD_bl, truD_lst, isF_int, isF_bl, isF_non, isF_tup, isF_str, isF_lf, isF_lk, isF_lo, isF_ll, at_0, at_1, at_2, ix_0, ix_1, ix_2, cap_i, cap_t, noL_i, noL_n, noL_b, noL_t, ck_0, ck_s, lk_0, lk_1, lk_2, lk_3, lk_4, ln_0, ln_1, ln_2, ln_3, ln_4, own_o, own_l, own_f, its_o, its_l, its_f, lend_o, lend_i, lend_b, lend_n, lend_s, lend_t, cap_k, cap_f, lend_l, lend_f, sh_o, sh_l, sh_f, sh_k, Bool.or_true, Bool.true_or, Bool.or_false, Bool.false_or, intD, isLst, lstO, List.set_cons_zero, List.set_cons_succ, bind_S, forL_0, kL_nx, kL_ct, kL_bk, kL_rt, tg_n, tg_t, tg_0, tg_s, wp_0, wp_s, bk_0, bk_s, rd_0, rd_s, sb_a, sb_l, si_a, si_l, hd_0, out_t, out_f, argD, ite_self, List.map_cons, List.map_nil, List.append_nil, List.cons_append, List.nil_append, Bool.and_true, Bool.true_and, Bool.not_true, Bool.not_false, Bool.and_false, Bool.false_and, true_and, and_true, decide_eq_true_eq, Bool.false_eq_true, if_false, if_true, ite_true, ite_false, reduceIte, Bool.not_eq_true', e]
  refine has_cmpF (fun t => inP xs t) (fun t : Int => t) .int cap_i' (mins (-60) 190) (by rw [mins_len]; decide) (fun t _ => ?_) ?_
  · simp only [ct__law_set_2, ce__law_set_3, e_cst, e_nil, e_yes, e_var, e_fv, e_mv, e_cons, e_dfr, e_op, e_tup, e_lst, e_tr, e_notT, e_andT, e_orT, e_andV, e_orV, e_notV, e_opq, e_if, e_call, e_callM, e_chain, e_src, e_rng, e_lc, g_nx, g_retN, g_brk, g_cnt, g_seq, g_drop, g_ret, g_asg, g_if, g_for, g_app, g_set, kk_ok, kS_ok, kQ_nx, kQ_rt, kQ_bk, kQ_ct, has_some, sl_0, sl_s, st_0, st_s, v_add, v_sub, v_neg, v_lt, v_le, v_gt, v_ge, v_eqi, v_nei, v_is, v_isNot, v_len, v_lenT, v_abs, v_int, v_item, v_itemT, v_list, v_max, v_min, v_repr, blD_bl, truD_bl, truD_lst, isF_int, isF_bl, isF_non, isF_tup, isF_str, isF_lf, isF_lk, isF_lo, isF_ll, at_0, at_1, at_2, ix_0, ix_1, ix_2, cap_i, cap_t, noL_i, noL_n, noL_b, noL_t, ck_0, ck_s, lk_0, lk_1, lk_2, lk_3, lk_4, ln_0, ln_1, ln_2, ln_3, ln_4, own_o, own_l, own_f, its_o, its_l, its_f, lend_o, lend_i, lend_b, lend_n, lend_s, lend_t, cap_k, cap_f, lend_l, lend_f, sh_o, sh_l, sh_f, sh_k, Bool.or_true, Bool.true_or, Bool.or_false, Bool.false_or, intD, isLst, lstO, List.set_cons_zero, List.set_cons_succ, bind_S, forL_0, kL_nx, kL_ct, kL_bk, kL_rt, tg_n, tg_t, tg_0, tg_s, wp_0, wp_s, bk_0, bk_s, rd_0, rd_s, sb_a, sb_l, si_a, si_l, hd_0, out_t, out_f, argD, ite_self, List.map_cons, List.map_nil, List.append_nil, List.cons_append, List.nil_append, Bool.and_true, Bool.true_and, Bool.not_true, Bool.not_false, Bool.and_false, Bool.false_and, true_and, and_true, decide_eq_true_eq, Bool.false_eq_true, if_false, if_true, ite_true, ite_false, reduceIte, Bool.not_eq_true', itemsOf_lst hm.1, hm.2]
    refine has_cmpF (fun q : Int × Int => decide (q.1 ≤ t) && decide (t ≤ q.2)) (fun q : Int × Int => q) pr cap_pr xs (by omega) (fun s _ => ?_) ?_
    · simp only [pr, ct__law_set_0, ce__law_set_1, e_cst, e_nil, e_yes, e_var, e_fv, e_mv, e_cons, e_dfr, e_op, e_tup, e_lst, e_tr, e_notT, e_andT, e_orT, e_andV, e_orV, e_notV, e_opq, e_if, e_call, e_callM, e_chain, e_src, e_rng, e_lc, g_nx, g_retN, g_brk, g_cnt, g_seq, g_drop, g_ret, g_asg, g_if, g_for, g_app, g_set, kk_ok, kS_ok, kQ_nx, kQ_rt, kQ_bk, kQ_ct, has_some, sl_0, sl_s, st_0, st_s, v_add, v_sub, v_neg, v_lt, v_le, v_gt, v_ge, v_eqi, v_nei, v_is, v_isNot, v_len, v_lenT, v_abs, v_int, v_item, v_itemT, v_list, v_max, v_min, v_repr, blD_bl, truD_bl, truD_lst, isF_int, isF_bl, isF_non, isF_tup, isF_str, isF_lf, isF_lk, isF_lo, isF_ll, at_0, at_1, at_2, ix_0, ix_1, ix_2, cap_i, cap_t, noL_i, noL_n, noL_b, noL_t, ck_0, ck_s, lk_0, lk_1, lk_2, lk_3, lk_4, ln_0, ln_1, ln_2, ln_3, ln_4, own_o, own_l, own_f, its_o, its_l, its_f, lend_o, lend_i, lend_b, lend_n, lend_s, lend_t, cap_k, cap_f, lend_l, lend_f, sh_o, sh_l, sh_f, sh_k, Bool.or_true, Bool.true_or, Bool.or_false, Bool.false_or, intD, isLst, lstO, List.set_cons_zero, List.set_cons_succ, bind_S, forL_0, kL_nx, kL_ct, kL_bk, kL_rt, tg_n, tg_t, tg_0, tg_s, wp_0, wp_s, bk_0, bk_s, rd_0, rd_s, sb_a, sb_l, si_a, si_l, hd_0, out_t, out_f, argD, ite_self, List.map_cons, List.map_nil, List.append_nil, List.cons_append, List.nil_append, Bool.and_true, Bool.true_and, Bool.not_true, Bool.not_false, Bool.and_false, Bool.false_and, true_and, and_true, decide_eq_true_eq, Bool.false_eq_true, if_false, if_true, ite_true, ite_false, reduceIte, Bool.not_eq_true']
      by_cases h1 : s.1 ≤ t <;> by_cases h2 : t ≤ s.2 <;> simp [h1, h2, e_cst, e_nil, e_yes, e_var, e_fv, e_mv, e_cons, e_dfr, e_op, e_tup, e_lst, e_tr, e_notT, e_andT, e_orT, e_andV, e_orV, e_notV, e_opq, e_if, e_call, e_callM, e_chain, e_src, e_rng, e_lc, g_nx, g_retN, g_brk, g_cnt, g_seq, g_drop, g_ret, g_asg, g_if, g_for, g_app, g_set, kk_ok, kS_ok, kQ_nx, kQ_rt, kQ_bk, kQ_ct, has_some, sl_0, sl_s, st_0, st_s, v_add, v_sub, v_neg, v_lt, v_le, v_gt, v_ge, v_eqi, v_nei, v_is, v_isNot, v_len, v_lenT, v_abs, v_int, v_item, v_itemT, v_list, v_max, v_min, v_repr, blD_bl, truD_bl, truD_lst, isF_int, isF_bl, isF_non, isF_tup, isF_str, isF_lf, isF_lk, isF_lo, isF_ll, at_0, at_1, at_2, ix_0, ix_1, ix_2, cap_i, cap_t, noL_i, noL_n, noL_b, noL_t, ck_0, ck_s, lk_0, lk_1, lk_2, lk_3, lk_4, ln_0, ln_1, ln_2, ln_3, ln_4, own_o, own_l, own_f, its_o, its_l, its_f, lend_o, lend_i, lend_b, lend_n, lend_s, lend_t, cap_k, cap_f, lend_l, lend_f, sh_o, sh_l, sh_f, sh_k, Bool.or_true, Bool.true_or, Bool.or_false, Bool.false_or, intD, isLst, lstO, List.set_cons_zero, List.set_cons_succ, bind_S, forL_0, kL_nx, kL_ct, kL_bk, kL_rt, tg_n, tg_t, tg_0, tg_s, wp_0, wp_s, bk_0, bk_s, rd_0, rd_s, sb_a, sb_l, si_a, si_l, hd_0, out_t, out_f, argD, ite_self, List.map_cons, List.map_nil, List.append_nil, List.cons_append, List.nil_append, Bool.and_true, Bool.true_and, Bool.not_true, Bool.not_false, Bool.and_false, Bool.false_and, true_and, and_true, decide_eq_true_eq, Bool.false_eq_true, if_false, if_true, ite_true, ite_false, reduceIte, Bool.not_eq_true']
    · simp only [e_cst, e_nil, e_yes, e_var, e_fv, e_mv, e_cons, e_dfr, e_op, e_tup, e_lst, e_tr, e_notT, e_andT, e_orT, e_andV, e_orV, e_notV, e_opq, e_if, e_call, e_callM, e_chain, e_src, e_rng, e_lc, g_nx, g_retN, g_brk, g_cnt, g_seq, g_drop, g_ret, g_asg, g_if, g_for, g_app, g_set, kk_ok, kS_ok, kQ_nx, kQ_rt, kQ_bk, kQ_ct, has_some, sl_0, sl_s, st_0, st_s, v_add, v_sub, v_neg, v_lt, v_le, v_gt, v_ge, v_eqi, v_nei, v_is, v_isNot, v_len, v_lenT, v_abs, v_int, v_item, v_itemT, v_list, v_max, v_min, v_repr, blD_bl, truD_bl, truD_lst, isF_int, isF_bl, isF_non, isF_tup, isF_str, isF_lf, isF_lk, isF_lo, isF_ll, at_0, at_1, at_2, ix_0, ix_1, ix_2, cap_i, cap_t, noL_i, noL_n, noL_b, noL_t, ck_0, ck_s, lk_0, lk_1, lk_2, lk_3, lk_4, ln_0, ln_1, ln_2, ln_3, ln_4, own_o, own_l, own_f, its_o, its_l, its_f, lend_o, lend_i, lend_b, lend_n, lend_s, lend_t, cap_k, cap_f, lend_l, lend_f, sh_o, sh_l, sh_f, sh_k, Bool.or_true, Bool.true_or, Bool.or_false, Bool.false_or, intD, isLst, lstO, List.set_cons_zero, List.set_cons_succ, bind_S, forL_0, kL_nx, kL_ct, kL_bk, kL_rt, tg_n, tg_t, tg_0, tg_s, wp_0, wp_s, bk_0, bk_s, rd_0, rd_s, sb_a, sb_l, si_a, si_l, hd_0, out_t, out_f, argD, ite_self, List.map_cons, List.map_nil, List.append_nil, List.cons_append, List.nil_append, Bool.and_true, Bool.true_and, Bool.not_true, Bool.not_false, Bool.and_false, Bool.false_and, true_and, and_true, decide_eq_true_eq, Bool.false_eq_true, if_false, if_true, ite_true, ite_false, reduceIte, Bool.not_eq_true', List.map_id']
      have := any_len xs t
      rw [this]
  · simp only [e_cst, e_nil, e_yes, e_var, e_fv, e_mv, e_cons, e_dfr, e_op, e_tup, e_lst, e_tr, e_notT, e_andT, e_orT, e_andV, e_orV, e_notV, e_opq, e_if, e_call, e_callM, e_chain, e_src, e_rng, e_lc, g_nx, g_retN, g_brk, g_cnt, g_seq, g_drop, g_ret, g_asg, g_if, g_for, g_app, g_set, kk_ok, kS_ok, kQ_nx, kQ_rt, kQ_bk, kQ_ct, has_some, sl_0, sl_s, st_0, st_s, v_add, v_sub, v_neg, v_lt, v_le, v_gt, v_ge, v_eqi, v_nei, v_is, v_isNot, v_len, v_lenT, v_abs, v_int, v_item, v_itemT, v_list, v_max, v_min, v_repr, blD_bl, truD_bl, truD_lst, isF_int, isF_bl, isF_non, isF_tup, isF_str, isF_lf, isF_lk, isF_lo, isF_ll, at_0, at_1, at_2, ix_0, ix_1, ix_2, cap_i, cap_t, noL_i, noL_n, noL_b, noL_t, ck_0, ck_s, lk_0, lk_1, lk_2, lk_3, lk_4, ln_0, ln_1, ln_2, ln_3, ln_4, own_o, own_l, own_f, its_o, its_l, its_f, lend_o, lend_i, lend_b, lend_n, lend_s, lend_t, cap_k, cap_f, lend_l, lend_f, sh_o, sh_l, sh_f, sh_k, Bool.or_true, Bool.true_or, Bool.or_false, Bool.false_or, intD, isLst, lstO, List.set_cons_zero, List.set_cons_succ, bind_S, forL_0, kL_nx, kL_ct, kL_bk, kL_rt, tg_n, tg_t, tg_0, tg_s, wp_0, wp_s, bk_0, bk_s, rd_0, rd_s, sb_a, sb_l, si_a, si_l, hd_0, out_t, out_f, argD, ite_self, List.map_cons, List.map_nil, List.append_nil, List.cons_append, List.nil_append, Bool.and_true, Bool.true_and, Bool.not_true, Bool.not_false, Bool.and_false, Bool.false_and, true_and, and_true, decide_eq_true_eq, Bool.false_eq_true, if_false, if_true, ite_true, ite_false, reduceIte, Bool.not_eq_true', List.map_id']
    rfl
/-! the spans of a list of minutes -/
def ofL (c : Int × Int) : List Int → Sp
  | [] => [c]
  | t :: r => if t ≤ c.2 + 1 then ofL (c.1, t) r else c :: ofL (t, t) r
def ofR : List Int → Sp
  | [] => []
  | t :: r => ofL (t, t) r
def ofP (xs : List Int) : Sp := ofR (sortI xs)
theorem nil_last {xs : Sp} {q : Int × Int} : decide (xs ++ [q] = []) = false := by simp
theorem lp_of {s0 : Option D} {K : ES → Prop} : ∀ (xs : List Int) (pre : Sp) (c : Int × Int) (a2 : Option D), pre.length + xs.length ≤ 900000 → (∀ a2, K (.nx, [s0, some (spD .o (pre ++ ofL c xs)), a2])) →
    has (evForL (tgName 2) bd__law_of_0 (xs.map .int) [s0, some (.lst .o (pre.map pr ++ [.tup [.int c.1, .int c.2]])), a2]) K
  | [], pre, c, a2, hl, h => by
    simp only [e_cst, e_nil, e_yes, e_var, e_fv, e_mv, e_cons, e_dfr, e_op, e_tup, e_lst, e_tr, e_notT, e_andT, e_orT, e_andV, e_orV, e_notV, e_opq, e_if, e_call, e_callM, e_chain, e_src, e_rng, e_lc, g_nx, g_retN, g_brk, g_cnt, g_seq, g_drop, g_ret, g_asg, g_if, g_for, g_app, g_set, kk_ok, kS_ok, kQ_nx, kQ_rt, kQ_bk, kQ_ct, has_some, sl_0, sl_s, st_0, st_s, v_add, v_sub, v_neg, v_lt, v_le, v_gt, v_ge, v_eqi, v_nei, v_is, v_isNot, v_len, v_lenT, v_abs, v_int, v_item, v_itemT, v_list, v_max, v_min, v_repr, blD_bl, truD_bl, truD_lst, isF_int, isF_bl, isF_non, isF_tup, isF_str, isF_lf, isF_lk, isF_lo, isF_ll, at_0, at_1, at_2, ix_0, ix_1, ix_2, cap_i, cap_t, noL_i, noL_n, noL_b, noL_t, ck_0, ck_s, lk_0, lk_1, lk_2, lk_3, lk_4, ln_0, ln_1, ln_2, ln_3, ln_4, own_o, own_l, own_f, its_o, its_l, its_f, lend_o, lend_i, lend_b, lend_n, lend_s, lend_t, cap_k, cap_f, lend_l, lend_f, sh_o, sh_l, sh_f, sh_k, Bool.or_true, Bool.true_or, Bool.or_false, Bool.false_or, intD, isLst, lstO, List.set_cons_zero, List.set_cons_succ, bind_S, forL_0, kL_nx, kL_ct, kL_bk, kL_rt, tg_n, tg_t, tg_0, tg_s, wp_0, wp_s, bk_0, bk_s, rd_0, rd_s, sb_a, sb_l, si_a, si_l, hd_0, out_t, out_f, argD, ite_self, List.map_cons, List.map_nil, List.append_nil, List.cons_append, List.nil_append, Bool.and_true, Bool.true_and, Bool.not_true, Bool.not_false, Bool.and_false, Bool.false_and, true_and, and_true, decide_eq_true_eq, Bool.false_eq_true, if_false, if_true, ite_true, ite_false, reduceIte, Bool.not_eq_true']
    rw [snoc]; exact h _
  | t :: r, pre, c, a2, hl, h => by
    simp only [List.length_cons] at hl
    have hl2 : (pre.map pr ++ [D.tup [.int c.1, .int c.2]]).length < 1000000 := by simp; omega
    have en : gNe [.lst .o (pre.map pr ++ [D.tup [.int c.1, .int c.2]]), .lst .o []] = some (.bl true) := by
      rw [snoc]; exact (ne_pn _).trans (by rw [nil_last]; rfl)
    simp only [List.map_cons, forL_s, bd__law_of_0, e_cst, e_nil, e_yes, e_var, e_fv, e_mv, e_cons, e_dfr, e_op, e_tup, e_lst, e_tr, e_notT, e_andT, e_orT, e_andV, e_orV, e_notV, e_opq, e_if, e_call, e_callM, e_chain, e_src, e_rng, e_lc, g_nx, g_retN, g_brk, g_cnt, g_seq, g_drop, g_ret, g_asg, g_if, g_for, g_app, g_set, kk_ok, kS_ok, kQ_nx, kQ_rt, kQ_bk, kQ_ct, has_some, sl_0, sl_s, st_0, st_s, v_add, v_sub, v_neg, v_lt, v_le, v_gt, v_ge, v_eqi, v_nei, v_is, v_isNot, v_len, v_lenT, v_abs, v_int, v_item, v_itemT, v_list, v_max, v_min, v_repr, blD_bl, truD_bl, truD_lst, isF_int, isF_bl, isF_non, isF_tup, isF_str, isF_lf, isF_lk, isF_lo, isF_ll, at_0, at_1, at_2, ix_0, ix_1, ix_2, cap_i, cap_t, noL_i, noL_n, noL_b, noL_t, ck_0, ck_s, lk_0, lk_1, lk_2, lk_3, lk_4, ln_0, ln_1, ln_2, ln_3, ln_4, own_o, own_l, own_f, its_o, its_l, its_f, lend_o, lend_i, lend_b, lend_n, lend_s, lend_t, cap_k, cap_f, lend_l, lend_f, sh_o, sh_l, sh_f, sh_k, Bool.or_true, Bool.true_or, Bool.or_false, Bool.false_or, intD, isLst, lstO, List.set_cons_zero, List.set_cons_succ, bind_S, forL_0, kL_nx, kL_ct, kL_bk, kL_rt, tg_n, tg_t, tg_0, tg_s, wp_0, wp_s, bk_0, bk_s, rd_0, rd_s, sb_a, sb_l, si_a, si_l, hd_0, out_t, out_f, argD, ite_self, List.map_cons, List.map_nil, List.append_nil, List.cons_append, List.nil_append, Bool.and_true, Bool.true_and, Bool.not_true, Bool.not_false, Bool.and_false, Bool.false_and, true_and, and_true, decide_eq_true_eq, Bool.false_eq_true, if_false, if_true, ite_true, ite_false, reduceIte, Bool.not_eq_true', at_last, ix_last, set_last, emp_last, en]
    by_cases h1 : t ≤ c.2 + 1 <;> simp only [h1, e_cst, e_nil, e_yes, e_var, e_fv, e_mv, e_cons, e_dfr, e_op, e_tup, e_lst, e_tr, e_notT, e_andT, e_orT, e_andV, e_orV, e_notV, e_opq, e_if, e_call, e_callM, e_chain, e_src, e_rng, e_lc, g_nx, g_retN, g_brk, g_cnt, g_seq, g_drop, g_ret, g_asg, g_if, g_for, g_app, g_set, kk_ok, kS_ok, kQ_nx, kQ_rt, kQ_bk, kQ_ct, has_some, sl_0, sl_s, st_0, st_s, v_add, v_sub, v_neg, v_lt, v_le, v_gt, v_ge, v_eqi, v_nei, v_is, v_isNot, v_len, v_lenT, v_abs, v_int, v_item, v_itemT, v_list, v_max, v_min, v_repr, blD_bl, truD_bl, truD_lst, isF_int, isF_bl, isF_non, isF_tup, isF_str, isF_lf, isF_lk, isF_lo, isF_ll, at_0, at_1, at_2, ix_0, ix_1, ix_2, cap_i, cap_t, noL_i, noL_n, noL_b, noL_t, ck_0, ck_s, lk_0, lk_1, lk_2, lk_3, lk_4, ln_0, ln_1, ln_2, ln_3, ln_4, own_o, own_l, own_f, its_o, its_l, its_f, lend_o, lend_i, lend_b, lend_n, lend_s, lend_t, cap_k, cap_f, lend_l, lend_f, sh_o, sh_l, sh_f, sh_k, Bool.or_true, Bool.true_or, Bool.or_false, Bool.false_or, intD, isLst, lstO, List.set_cons_zero, List.set_cons_succ, bind_S, forL_0, kL_nx, kL_ct, kL_bk, kL_rt, tg_n, tg_t, tg_0, tg_s, wp_0, wp_s, bk_0, bk_s, rd_0, rd_s, sb_a, sb_l, si_a, si_l, hd_0, out_t, out_f, argD, ite_self, List.map_cons, List.map_nil, List.append_nil, List.cons_append, List.nil_append, Bool.and_true, Bool.true_and, Bool.not_true, Bool.not_false, Bool.and_false, Bool.false_and, true_and, and_true, decide_eq_true_eq, Bool.false_eq_true, if_false, if_true, ite_true, ite_false, reduceIte, Bool.not_eq_true', at_last, ix_last, set_last, emp_last] <;> simp only [ofL, h1, ite_true, ite_false, if_true, if_false] at h
    · exact lp_of r pre (c.1, t) _ (by omega) h
    · refine ⟨hl2, ?_⟩
      rw [snoc]
      refine lp_of r (pre ++ [(c.1, c.2)]) (t, t) _ (by simp; omega) ?_
      simpa using h
theorem ok_of {m : Fl} (hm : shal m = true) (xs : List Int) (hl : xs.length ≤ 900000) : F__law_of [miD m xs] = some (.ok (spD .o (ofP xs)), [none]) := by
  unfold F__law_of
  refine fn_go rfl ?_
  show Go ev__law_of [some (miD m xs), none, none] _
  have e := sorted_i hm xs (by omega)
  have l : (sortI xs).length = xs.length := List.length_mergeSort _
  simp only [ev__law_of, e_cst, e_nil, e_yes, e_var, e_fv, e_mv, e_cons, e_dfr, e_op, e_tup, e_lst, e_tr, e_notT, e_andT, e_orT, e_andV, e_orV, e_notV, e_opq, e_if, e_call, e_callM, e_chain, e_src, e_rng, e_lc, g_nx, g_retN, g_brk, g_cnt, g_seq, g_drop, g_ret, g_asg, g_if, g_for, g_app, g_set, kk_ok, kS_ok, kQ_nx, kQ_rt, kQ_bk, kQ_ct, has_some, sl_0, sl_s, st_0, st_s, v_add, v_sub, v_neg, v_lt, v_le, v_gt, v_ge, v_eqi, v_nei, v_is, v_isNot, v_len, v_lenT, v_abs, v_int, v_item, v_itemT, v_list, v_max, v_min, v_repr, blD_bl, truD_bl, truD_lst, isF_int, isF_bl, isF_non, isF_tup, isF_str, isF_lf, isF_lk, isF_lo, isF_ll, at_0, at_1, at_2, ix_0, ix_1, ix_2, cap_i, cap_t, noL_i, noL_n, noL_b, noL_t, ck_0, ck_s, lk_0, lk_1, lk_2, lk_3, lk_4, ln_0, ln_1, ln_2, ln_3, ln_4, own_o, own_l, own_f, its_o, its_l, its_f, lend_o, lend_i, lend_b, lend_n, lend_s, lend_t, cap_k, cap_f, lend_l, lend_f, sh_o, sh_l, sh_f, sh_k, Bool.or_true, Bool.true_or, Bool.or_false, Bool.false_or, intD, isLst, lstO, List.set_cons_zero, List.set_cons_succ, bind_S, forL_0, kL_nx, kL_ct, kL_bk, kL_rt, tg_n, tg_t, tg_0, tg_s, wp_0, wp_s, bk_0, bk_s, rd_0, rd_s, sb_a, sb_l, si_a, si_l, hd_0, out_t, out_f, argD, ite_self, List.map_cons, List.map_nil, List.append_nil, List.cons_append, List.nil_append, Bool.and_true, Bool.true_and, Bool.not_true, Bool.not_false, Bool.and_false, Bool.false_and, true_and, and_true, decide_eq_true_eq, Bool.false_eq_true, if_false, if_true, ite_true, ite_false, reduceIte, Bool.not_eq_true', e]
  unfold ofP
  cases hs : sortI xs with
  | nil =>
    simp only [e_cst, e_nil, e_yes, e_var, e_fv, e_mv, e_cons, e_dfr, e_op, e_tup, e_lst, e_tr, e_notT, e_andT, e_orT, e_andV, e_orV, e_notV, e_opq, e_if, e_call, e_callM, e_chain, e_src, e_rng, e_lc, g_nx, g_retN, g_brk, g_cnt, g_seq, g_drop, g_ret, g_asg, g_if, g_for, g_app, g_set, kk_ok, kS_ok, kQ_nx, kQ_rt, kQ_bk, kQ_ct, has_some, sl_0, sl_s, st_0, st_s, v_add, v_sub, v_neg, v_lt, v_le, v_gt, v_ge, v_eqi, v_nei, v_is, v_isNot, v_len, v_lenT, v_abs, v_int, v_item, v_itemT, v_list, v_max, v_min, v_repr, blD_bl, truD_bl, truD_lst, isF_int, isF_bl, isF_non, isF_tup, isF_str, isF_lf, isF_lk, isF_lo, isF_ll, at_0, at_1, at_2, ix_0, ix_1, ix_2, cap_i, cap_t, noL_i, noL_n, noL_b, noL_t, ck_0, ck_s, lk_0, lk_1, lk_2, lk_3, lk_4, ln_0, ln_1, ln_2, ln_3, ln_4, own_o, own_l, own_f, its_o, its_l, its_f, lend_o, lend_i, lend_b, lend_n, lend_s, lend_t, cap_k, cap_f, lend_l, lend_f, sh_o, sh_l, sh_f, sh_k, Bool.or_true, Bool.true_or, Bool.or_false, Bool.false_or, intD, isLst, lstO, List.set_cons_zero, List.set_cons_succ, bind_S, forL_0, kL_nx, kL_ct, kL_bk, kL_rt, tg_n, tg_t, tg_0, tg_s, wp_0, wp_s, bk_0, bk_s, rd_0, rd_s, sb_a, sb_l, si_a, si_l, hd_0, out_t, out_f, argD, ite_self, List.map_cons, List.map_nil, List.append_nil, List.cons_append, List.nil_append, Bool.and_true, Bool.true_and, Bool.not_true, Bool.not_false, Bool.and_false, Bool.false_and, true_and, and_true, decide_eq_true_eq, Bool.false_eq_true, if_false, if_true, ite_true, ite_false, reduceIte, Bool.not_eq_true']
    exact ⟨rfl, rfl⟩
  | cons q r =>
    have hlr : r.length ≤ 900000 - 1 := by
      have := l; rw [hs] at this; simp at this; omega
    have en : gNe [.lst .o ([] : List D), .lst .o []] = some (.bl false) := by rfl
    simp only [List.map_cons, forL_s, bd__law_of_0, e_cst, e_nil, e_yes, e_var, e_fv, e_mv, e_cons, e_dfr, e_op, e_tup, e_lst, e_tr, e_notT, e_andT, e_orT, e_andV, e_orV, e_notV, e_opq, e_if, e_call, e_callM, e_chain, e_src, e_rng, e_lc, g_nx, g_retN, g_brk, g_cnt, g_seq, g_drop, g_ret, g_asg, g_if, g_for, g_app, g_set, kk_ok, kS_ok, kQ_nx, kQ_rt, kQ_bk, kQ_ct, has_some, sl_0, sl_s, st_0, st_s, v_add, v_sub, v_neg, v_lt, v_le, v_gt, v_ge, v_eqi, v_nei, v_is, v_isNot, v_len, v_lenT, v_abs, v_int, v_item, v_itemT, v_list, v_max, v_min, v_repr, blD_bl, truD_bl, truD_lst, isF_int, isF_bl, isF_non, isF_tup, isF_str, isF_lf, isF_lk, isF_lo, isF_ll, at_0, at_1, at_2, ix_0, ix_1, ix_2, cap_i, cap_t, noL_i, noL_n, noL_b, noL_t, ck_0, ck_s, lk_0, lk_1, lk_2, lk_3, lk_4, ln_0, ln_1, ln_2, ln_3, ln_4, own_o, own_l, own_f, its_o, its_l, its_f, lend_o, lend_i, lend_b, lend_n, lend_s, lend_t, cap_k, cap_f, lend_l, lend_f, sh_o, sh_l, sh_f, sh_k, Bool.or_true, Bool.true_or, Bool.or_false, Bool.false_or, intD, isLst, lstO, List.set_cons_zero, List.set_cons_succ, bind_S, forL_0, kL_nx, kL_ct, kL_bk, kL_rt, tg_n, tg_t, tg_0, tg_s, wp_0, wp_s, bk_0, bk_s, rd_0, rd_s, sb_a, sb_l, si_a, si_l, hd_0, out_t, out_f, argD, ite_self, List.map_cons, List.map_nil, List.append_nil, List.cons_append, List.nil_append, Bool.and_true, Bool.true_and, Bool.not_true, Bool.not_false, Bool.and_false, Bool.false_and, true_and, and_true, decide_eq_true_eq, Bool.false_eq_true, if_false, if_true, ite_true, ite_false, reduceIte, Bool.not_eq_true', List.isEmpty_nil, Bool.not_true, en]
    refine ⟨by simp, ?_⟩
    refine lp_of r [] (q, q) _ (by simp; omega) fun _ => ?_
    simp only [e_cst, e_nil, e_yes, e_var, e_fv, e_mv, e_cons, e_dfr, e_op, e_tup, e_lst, e_tr, e_notT, e_andT, e_orT, e_andV, e_orV, e_notV, e_opq, e_if, e_call, e_callM, e_chain, e_src, e_rng, e_lc, g_nx, g_retN, g_brk, g_cnt, g_seq, g_drop, g_ret, g_asg, g_if, g_for, g_app, g_set, kk_ok, kS_ok, kQ_nx, kQ_rt, kQ_bk, kQ_ct, has_some, sl_0, sl_s, st_0, st_s, v_add, v_sub, v_neg, v_lt, v_le, v_gt, v_ge, v_eqi, v_nei, v_is, v_isNot, v_len, v_lenT, v_abs, v_int, v_item, v_itemT, v_list, v_max, v_min, v_repr, blD_bl, truD_bl, truD_lst, isF_int, isF_bl, isF_non, isF_tup, isF_str, isF_lf, isF_lk, isF_lo, isF_ll, at_0, at_1, at_2, ix_0, ix_1, ix_2, cap_i, cap_t, noL_i, noL_n, noL_b, noL_t, ck_0, ck_s, lk_0, lk_1, lk_2, lk_3, lk_4, ln_0, ln_1, ln_2, ln_3, ln_4, own_o, own_l, own_f, its_o, its_l, its_f, lend_o, lend_i, lend_b, lend_n, lend_s, lend_t, cap_k, cap_f, lend_l, lend_f, sh_o, sh_l, sh_f, sh_k, Bool.or_true, Bool.true_or, Bool.or_false, Bool.false_or, intD, isLst, lstO, List.set_cons_zero, List.set_cons_succ, bind_S, forL_0, kL_nx, kL_ct, kL_bk, kL_rt, tg_n, tg_t, tg_0, tg_s, wp_0, wp_s, bk_0, bk_s, rd_0, rd_s, sb_a, sb_l, si_a, si_l, hd_0, out_t, out_f, argD, ite_self, List.map_cons, List.map_nil, List.append_nil, List.cons_append, List.nil_append, Bool.and_true, Bool.true_and, Bool.not_true, Bool.not_false, Bool.and_false, Bool.false_and, true_and, and_true, decide_eq_true_eq, Bool.false_eq_true, if_false, if_true, ite_true, ite_false, reduceIte, Bool.not_eq_true']
    exact ⟨rfl, rfl⟩
end K11
namespace K11
open PySem PD
def on (q : Int × Int) (t : Int) : Prop := q.1 ≤ t ∧ t ≤ q.2
def In (xs : Sp) (t : Int) : Prop := ∃ q ∈ xs, on q t
theorem inP_iff {xs : Sp} {t : Int} : inP xs t = true ↔ In xs t := by
  unfold inP In on
  rw [List.any_eq_true]
  simp only [Bool.and_eq_true, decide_eq_true_eq]
theorem In_nil {t : Int} : ¬ In [] t := fun ⟨q, h, _⟩ => by simp at h
theorem In_cons {q : Int × Int} {r : Sp} {t : Int} : In (q :: r) t ↔ on q t ∨ In r t := by
  unfold In
  simp
theorem In_app {xs ys : Sp} {t : Int} : In (xs ++ ys) t ↔ In xs t ∨ In ys t := by
  unfold In
  simp only [List.mem_append]
  exact ⟨fun ⟨q, h, o⟩ => h.elim (fun h => .inl ⟨q, h, o⟩) fun h => .inr ⟨q, h, o⟩, fun h => h.elim (fun ⟨q, h, o⟩ => ⟨q, .inl h, o⟩) fun ⟨q, h, o⟩ => ⟨q, .inr h, o⟩⟩
/-- in order and apart, from b on -/
def Good (b : Int) : Sp → Prop
  | [] => True
  | q :: r => b ≤ q.1 ∧ q.1 ≤ q.2 ∧ Good (q.2 + 2) r
theorem Good.le {b c : Int} (h : b ≤ c) : ∀ {xs : Sp}, Good c xs → Good b xs
  | [], _ => trivial
  | q :: r, ⟨h1, h2, h3⟩ => ⟨by omega, h2, h3⟩
theorem Good.lo {b : Int} : ∀ {xs : Sp} {t : Int}, Good b xs → In xs t → b ≤ t
  | [], t, _, h => (In_nil h).elim
  | q :: r, t, ⟨h1, h2, h3⟩, h => by
    rcases In_cons.mp h with h | h
    · have := h.1; omega
    · have := Good.lo h3 h; omega
theorem Good.uniq : ∀ {xs ys : Sp} {b c : Int}, Good b xs → Good c ys → (∀ t, In xs t ↔ In ys t) → xs = ys
  | [], [], _, _, _, _, _ => rfl
  | [], q :: r, _, _, _, ⟨_, h2, _⟩, h => ((In_nil ((h q.1).mpr (In_cons.mpr (.inl ⟨Int.le_refl _, h2⟩))))).elim
  | p :: r, [], _, _, ⟨_, h2, _⟩, _, h => ((In_nil ((h p.1).mp (In_cons.mpr (.inl ⟨Int.le_refl _, h2⟩))))).elim
  | p :: r, q :: s, b, c, ⟨p1, p2, p3⟩, ⟨q1, q2, q3⟩, h => by
    have e1 : p.1 = q.1 := by
      have a1 := (h p.1).mp (In_cons.mpr (.inl ⟨Int.le_refl _, p2⟩))
      have a2 := (h q.1).mpr (In_cons.mpr (.inl ⟨Int.le_refl _, q2⟩))
      have l1 : q.1 ≤ p.1 := by
        rcases In_cons.mp a1 with z | z
        · exact z.1
        · have := q3.lo z; omega
      have l2 : p.1 ≤ q.1 := by
        rcases In_cons.mp a2 with z | z
        · exact z.1
        · have := p3.lo z; omega
      omega
    have e2 : p.2 = q.2 := by
      rcases Int.lt_trichotomy p.2 q.2 with l | l | l
      · exfalso
        have a := (h (p.2 + 1)).mpr (In_cons.mpr (.inl ⟨by omega, by omega⟩))
        rcases In_cons.mp a with z | z
        · have := z.2; omega
        · have := p3.lo z; omega
      · exact l
      · exfalso
        have a := (h (q.2 + 1)).mp (In_cons.mpr (.inl ⟨by omega, by omega⟩))
        rcases In_cons.mp a with z | z
        · have := z.2; omega
        · have := q3.lo z; omega
    have e : p = q := Prod.ext e1 e2
    subst e
    have := Good.uniq p3 q3 fun t => by
      constructor
      · intro z
        rcases In_cons.mp ((h t).mp (In_cons.mpr (.inr z))) with y | y
        · have := p3.lo z; have := y.2; omega
        · exact y
      · intro z
        rcases In_cons.mp ((h t).mpr (In_cons.mpr (.inr z))) with y | y
        · have := q3.lo z; have := y.2; omega
        · exact y
    rw [this]
theorem Good.app {b e : Int} {ys : Sp} (hy : Good (e + 2) ys) : ∀ {xs : Sp}, Good b xs → (∀ q ∈ xs, q.2 ≤ e) → b ≤ e + 2 → Good b (xs ++ ys)
  | [], _, _, hb => hy.le hb
  | q :: r, ⟨h1, h2, h3⟩, h, hb => ⟨h1, h2, Good.app hy h3 (fun s hs => h s (List.mem_cons_of_mem _ hs)) (by have := h q List.mem_cons_self; omega)⟩
/-! sorted lists of minutes -/
abbrev Asc (xs : List Int) : Prop := xs.Pairwise (· < ·)
theorem Asc.uniq : ∀ {xs ys : List Int}, Asc xs → Asc ys → (∀ t, t ∈ xs ↔ t ∈ ys) → xs = ys
  | [], [], _, _, _ => rfl
  | [], y :: ys, _, _, h => by have := (h y).mpr List.mem_cons_self; simp at this
  | x :: xs, [], _, _, h => by have := (h x).mp List.mem_cons_self; simp at this
  | x :: xs, y :: ys, hx, hy, h => by
    have hx' := List.pairwise_cons.mp hx
    have hy' := List.pairwise_cons.mp hy
    have e : x = y := by
      have a := (h x).mp List.mem_cons_self
      have b := (h y).mpr List.mem_cons_self
      rcases List.mem_cons.mp a with a | a
      · exact a
      · rcases List.mem_cons.mp b with b | b
        · exact b.symm
        · have := hy'.1 x a; have := hx'.1 y b; omega
    subst e
    have := Asc.uniq hx'.2 hy'.2 fun t => by
      constructor
      · intro z
        rcases List.mem_cons.mp ((h t).mp (List.mem_cons_of_mem _ z)) with y | y
        · have := hx'.1 t z; omega
        · exact y
      · intro z
        rcases List.mem_cons.mp ((h t).mpr (List.mem_cons_of_mem _ z)) with y | y
        · have := hy'.1 t z; omega
        · exact y
    rw [this]
theorem mem_mins {lo t : Int} {n : Nat} : t ∈ mins lo n ↔ lo ≤ t ∧ t < lo + n := by
  unfold mins
  rw [List.mem_map]
  constructor
  · rintro ⟨k, hk, rfl⟩
    have := List.mem_range.mp hk
    omega
  · rintro ⟨h1, h2⟩
    exact ⟨(t - lo).toNat, List.mem_range.mpr (by omega), by omega⟩
theorem mins_asc (lo : Int) (n : Nat) : Asc (mins lo n) := by
  unfold mins Asc
  rw [List.pairwise_map]
  exact List.pairwise_lt_range.imp fun h => by omega
theorem mem_set {xs : Sp} {t : Int} : t ∈ setP xs ↔ (-60 ≤ t ∧ t < 130) ∧ In xs t := by
  unfold setP
  rw [List.mem_filter, mem_mins, inP_iff]
  constructor
  · rintro ⟨h1, h2⟩; exact ⟨⟨h1.1, by omega⟩, h2⟩
  · rintro ⟨h1, h2⟩; exact ⟨⟨h1.1, by omega⟩, h2⟩
theorem set_asc (xs : Sp) : Asc (setP xs) := (mins_asc _ _).filter _
/-- the minutes of spans, one by one -/
def exP : Sp → List Int
  | [] => []
  | q :: r => mins q.1 (q.2 - q.1 + 1).toNat ++ exP r
theorem mem_ex : ∀ {b : Int} {xs : Sp} {t : Int}, Good b xs → (t ∈ exP xs ↔ In xs t)
  | _, [], t, _ => ⟨fun h => by simp [exP] at h, fun h => (In_nil h).elim⟩
  | b, q :: r, t, ⟨h1, h2, h3⟩ => by
    rw [exP, List.mem_append, mem_ex h3, In_cons, mem_mins]
    unfold on
    constructor
    · rintro (h | h)
      · exact .inl ⟨h.1, by omega⟩
      · exact .inr h
    · rintro (h | h)
      · exact .inl ⟨h.1, by omega⟩
      · exact .inr h
theorem ex_asc : ∀ {b : Int} {xs : Sp}, Good b xs → Asc (exP xs)
  | _, [], _ => List.Pairwise.nil
  | b, q :: r, ⟨h1, h2, h3⟩ => by
    rw [exP]
    refine List.pairwise_append.mpr ⟨mins_asc _ _, ex_asc h3, fun x hx y hy => ?_⟩
    have := mem_mins.mp hx
    have := h3.lo ((mem_ex h3).mp hy)
    omega
theorem set_ex {b : Int} {xs : Sp} (g : Good b xs) (h : ∀ t, In xs t → -60 ≤ t ∧ t < 130) : setP xs = exP xs :=
  (set_asc xs).uniq (ex_asc g) fun t => by
    rw [mem_set, mem_ex g]
    exact ⟨fun z => z.2, fun z => ⟨h t z, z⟩⟩
theorem len_ex : ∀ {b : Int} {xs : Sp}, Good b xs → lengthP xs = (exP xs).length
  | _, [], _ => rfl
  | b, q :: r, ⟨h1, h2, h3⟩ => by
    have := len_ex h3
    unfold lengthP at this ⊢
    rw [List.map_cons, List.sum_cons, this, exP, List.length_append, mins_len]
    omega
theorem mins_get {lo : Int} {n k : Nat} (h : k < n) : (mins lo n)[k]? = some (lo + k) := by
  unfold mins
  rw [List.getElem?_map, List.getElem?_range h]; rfl
theorem nth_ex : ∀ {b : Int} {xs : Sp} (k : Int), Good b xs → 0 ≤ k → nthP xs k = (exP xs)[k.toNat]?
  | _, [], k, _, _ => rfl
  | b, q :: r, k, ⟨h1, h2, h3⟩, hk => by
    rw [nthP, exP]
    by_cases h : k ≤ q.2 - q.1
    · rw [if_pos h, List.getElem?_append_left (by rw [mins_len]; omega), mins_get (by omega)]
      congr 1; omega
    · rw [if_neg h, List.getElem?_append_right (by rw [mins_len]; omega), nth_ex _ h3 (by omega), mins_len]
      congr 1; omega
theorem next_ex : ∀ {b : Int} {xs : Sp} (t : Int), Good b xs → nextP xs t = ((exP xs).filter fun v => decide (t ≤ v)).head?
  | _, [], t, _ => rfl
  | b, q :: r, t, ⟨h1, h2, h3⟩ => by
    rw [nextP, exP, List.filter_append]
    by_cases h : t ≤ q.2
    · rw [if_pos h]
      have : (mins q.1 (q.2 - q.1 + 1).toNat).filter (fun v => decide (t ≤ v)) = mins (max q.1 t) (q.2 - max q.1 t + 1).toNat := by
        refine Asc.uniq ((mins_asc _ _).filter _) (mins_asc _ _) fun v => ?_
        rw [List.mem_filter, mem_mins, mem_mins, decide_eq_true_eq]
        omega
      rw [this]
      have e : (q.2 - max q.1 t + 1).toNat = (q.2 - max q.1 t).toNat + 1 := by omega
      rw [e]
      unfold mins
      rw [List.range_succ_eq_map]
      simp
    · rw [if_neg h, next_ex t h3]
      have : (mins q.1 (q.2 - q.1 + 1).toNat).filter (fun v => decide (t ≤ v)) = [] := by
        rw [List.filter_eq_nil_iff]
        intro v hv
        have := mem_mins.mp hv
        simp only [decide_eq_true_eq]; omega
      rw [this, List.nil_append]
theorem last_ex : ∀ {b : Int} {xs : Sp} (a : Option Int) (t : Int), Good b xs → lastP a xs t = (((exP xs).filter fun v => decide (v ≤ t)).getLast?).or a
  | _, [], a, t, _ => by simp [lastP, exP]
  | b, q :: r, a, t, ⟨h1, h2, h3⟩ => by
    rw [lastP, exP, List.filter_append, last_ex _ t h3, List.getLast?_append]
    by_cases h : q.1 ≤ t
    · rw [if_pos h]
      have : (mins q.1 (q.2 - q.1 + 1).toNat).filter (fun v => decide (v ≤ t)) = mins q.1 (min q.2 t - q.1 + 1).toNat := by
        refine Asc.uniq ((mins_asc _ _).filter _) (mins_asc _ _) fun v => ?_
        rw [List.mem_filter, mem_mins, mem_mins, decide_eq_true_eq]
        omega
      rw [this]
      have e : (min q.2 t - q.1 + 1).toNat = (min q.2 t - q.1).toNat + 1 := by omega
      have : (mins q.1 (min q.2 t - q.1 + 1).toNat).getLast? = some (min q.2 t) := by
        rw [e]
        unfold mins
        rw [List.range_succ, List.map_append]
        simp
        omega
      rw [this]
      cases ((exP r).filter fun v => decide (v ≤ t)).getLast? <;> rfl
    · rw [if_neg h]
      have e1 : (mins q.1 (q.2 - q.1 + 1).toNat).filter (fun v => decide (v ≤ t)) = [] := by
        rw [List.filter_eq_nil_iff]
        intro v hv
        have := mem_mins.mp hv
        simp only [decide_eq_true_eq]; omega
      rw [e1]
      cases ((exP r).filter fun v => decide (v ≤ t)).getLast? <;> rfl
/-! meet -/
theorem meetIn_good {b e : Int} (hbe : b ≤ e) : ∀ {c : Int} {ys : Sp}, Good c ys → Good (max b c) (meetIn b e ys) ∧ (∀ q ∈ meetIn b e ys, q.2 ≤ e) ∧ ∀ t, In (meetIn b e ys) t ↔ (b ≤ t ∧ t ≤ e) ∧ In ys t
  | c, [], _ => ⟨trivial, fun q h => by simp [meetIn] at h, fun t => ⟨fun h => (In_nil h).elim, fun h => (In_nil h.2).elim⟩⟩
  | c, q :: r, ⟨h1, h2, h3⟩ => by
    obtain ⟨g1, g2, g3⟩ := meetIn_good hbe h3
    rw [meetIn]
    by_cases h : max b q.1 ≤ min e q.2
    · rw [if_pos h]
      refine ⟨⟨by simp only; omega, h, g1.le (by simp only; omega)⟩, fun s hs => ?_, fun t => ?_⟩
      · rcases List.mem_cons.mp hs with hs | hs
        · rw [hs]; simp only; omega
        · exact g2 s hs
      · rw [List.singleton_append, In_cons, In_cons, g3]
        unfold on
        simp only
        constructor
        · rintro (⟨z1, z2⟩ | ⟨z1, z2⟩)
          · exact ⟨by omega, .inl (by omega)⟩
          · exact ⟨z1, .inr z2⟩
        · rintro ⟨z1, z2 | z2⟩
          · exact .inl (by omega)
          · exact .inr ⟨z1, z2⟩
    · rw [if_neg h, List.nil_append]
      refine ⟨g1.le (by omega), g2, fun t => ?_⟩
      rw [g3, In_cons]
      unfold on
      constructor
      · rintro ⟨z1, z2⟩; exact ⟨z1, .inr z2⟩
      · rintro ⟨z1, z2 | z2⟩
        · omega
        · exact ⟨z1, z2⟩
theorem meet_good {c : Int} {ys : Sp} (hy : Good c ys) : ∀ {b : Int} {xs : Sp}, Good b xs → Good b (meetP xs ys) ∧ ∀ t, In (meetP xs ys) t ↔ In xs t ∧ In ys t
  | b, [], _ => ⟨trivial, fun t => ⟨fun h => (In_nil h).elim, fun h => (In_nil h.1).elim⟩⟩
  | b, q :: r, ⟨h1, h2, h3⟩ => by
    obtain ⟨g1, g2⟩ := meet_good hy h3
    obtain ⟨k1, k2, k3⟩ := meetIn_good h2 hy
    rw [meetP]
    refine ⟨Good.app g1 (k1.le (by omega)) k2 (by omega), fun t => ?_⟩
    rw [In_app, g2, k3, In_cons]
    unfold on
    constructor
    · rintro (⟨z1, z2⟩ | ⟨z1, z2⟩)
      · exact ⟨.inl z1, z2⟩
      · exact ⟨.inr z1, z2⟩
    · rintro ⟨z1 | z1, z2⟩
      · exact .inl ⟨z1, z2⟩
      · exact .inr ⟨z1, z2⟩
/-! tidy, and the spans of a list of minutes -/
theorem tidyL_good : ∀ {c : Int × Int} {r : Sp}, c.1 ≤ c.2 → (∀ q ∈ r, c.1 ≤ q.1 ∧ q.1 ≤ q.2) → r.Pairwise (fun p q => p.1 ≤ q.1) → Good c.1 (tidyL c r) ∧ ∀ t, In (tidyL c r) t ↔ on c t ∨ In r t
  | c, [], h1, _, _ => ⟨⟨Int.le_refl _, h1, trivial⟩, fun t => by rw [tidyL, In_cons]⟩
  | c, q :: r, h1, h2, h3 => by
    have hq := h2 q List.mem_cons_self
    have h3' := List.pairwise_cons.mp h3
    rw [tidyL]
    by_cases h : q.1 ≤ c.2 + 1
    · rw [if_pos h]
      obtain ⟨g1, g2⟩ := tidyL_good (c := (c.1, max c.2 q.2)) (r := r) (by simp only; omega) (fun s hs => h2 s (List.mem_cons_of_mem _ hs)) h3'.2
      refine ⟨g1, fun t => ?_⟩
      rw [g2, In_cons]
      unfold on
      simp only
      constructor
      · rintro (z | z)
        · by_cases y : t ≤ c.2
          · exact .inl ⟨z.1, y⟩
          · exact .inr (.inl (by omega))
        · exact .inr (.inr z)
      · rintro (z | z | z)
        · exact .inl (by omega)
        · exact .inl (by omega)
        · exact .inr z
    · rw [if_neg h]
      obtain ⟨g1, g2⟩ := tidyL_good (c := q) (r := r) hq.2 (fun s hs => ⟨h3'.1 s hs, (h2 s (List.mem_cons_of_mem _ hs)).2⟩) h3'.2
      refine ⟨⟨Int.le_refl _, h1, g1.le (by omega)⟩, fun t => ?_⟩
      rw [In_cons, g2, In_cons]
theorem leP_trans : ∀ a b c : Int × Int, leP a b = true → leP b c = true → leP a c = true := by
  intro a b c
  unfold leP
  simp only [decide_eq_true_eq]
  omega
theorem leP_total : ∀ a b : Int × Int, (leP a b || leP b a) = true := by
  intro a b
  unfold leP
  rw [Bool.or_eq_true, decide_eq_true_eq, decide_eq_true_eq]
  omega
theorem In_perm {xs ys : Sp} (h : ∀ q, q ∈ xs ↔ q ∈ ys) (t : Int) : In xs t ↔ In ys t := by
  unfold In
  exact ⟨fun ⟨q, a, b⟩ => ⟨q, (h q).mp a, b⟩, fun ⟨q, a, b⟩ => ⟨q, (h q).mpr a, b⟩⟩
theorem tidy_good {xs : Sp} (h : ∀ q ∈ xs, q.1 ≤ q.2) : (∃ b, Good b (tidyP xs)) ∧ ∀ t, In (tidyP xs) t ↔ In xs t := by
  have hm : ∀ q, q ∈ sortP xs ↔ q ∈ xs := fun q => (List.mergeSort_perm xs leP).mem_iff
  have hs : (sortP xs).Pairwise (fun p q => p.1 ≤ q.1) := (List.pairwise_mergeSort leP_trans leP_total xs).imp fun {a b} h => by
    unfold leP at h
    rw [decide_eq_true_eq] at h
    omega
  have hi := In_perm hm
  unfold tidyP
  cases e : sortP xs with
  | nil =>
    rw [e] at hi
    exact ⟨⟨0, trivial⟩, hi⟩
  | cons q r =>
    rw [e] at hi hs hm
    have hs' := List.pairwise_cons.mp hs
    obtain ⟨g1, g2⟩ := tidyL_good (c := q) (r := r) (h q ((hm q).mp List.mem_cons_self)) (fun s z => ⟨hs'.1 s z, h s ((hm s).mp (List.mem_cons_of_mem _ z))⟩) hs'.2
    refine ⟨⟨_, g1⟩, fun t => ?_⟩
    rw [tidyR, g2, ← In_cons]
    exact hi t
theorem ofL_good : ∀ {c : Int × Int} {r : List Int}, c.1 ≤ c.2 → (∀ t ∈ r, c.2 ≤ t) → r.Pairwise (· ≤ ·) → Good c.1 (ofL c r) ∧ ∀ t, In (ofL c r) t ↔ on c t ∨ t ∈ r
  | c, [], h1, _, _ => ⟨⟨Int.le_refl _, h1, trivial⟩, fun t => by rw [ofL, In_cons]; simp [In_nil]⟩
  | c, v :: r, h1, h2, h3 => by
    have hv := h2 v List.mem_cons_self
    have h3' := List.pairwise_cons.mp h3
    rw [ofL]
    by_cases h : v ≤ c.2 + 1
    · rw [if_pos h]
      obtain ⟨g1, g2⟩ := ofL_good (c := (c.1, v)) (r := r) (by simp only; omega) (fun s hs => h3'.1 s hs) h3'.2
      refine ⟨g1, fun t => ?_⟩
      rw [g2, List.mem_cons]
      unfold on
      simp only
      constructor
      · rintro (z | z)
        · by_cases y : t ≤ c.2
          · exact .inl ⟨z.1, y⟩
          · exact .inr (.inl (by omega))
        · exact .inr (.inr z)
      · rintro (z | z | z)
        · exact .inl (by omega)
        · exact .inl (by omega)
        · exact .inr z
    · rw [if_neg h]
      obtain ⟨g1, g2⟩ := ofL_good (c := (v, v)) (r := r) (Int.le_refl _) (fun s hs => h3'.1 s hs) h3'.2
      refine ⟨⟨Int.le_refl _, h1, g1.le (by simp only; omega)⟩, fun t => ?_⟩
      rw [In_cons, g2, List.mem_cons]
      unfold on
      simp only
      constructor
      · rintro (z | z | z)
        · exact .inl z
        · exact .inr (.inl (by omega))
        · exact .inr (.inr z)
      · rintro (z | z | z)
        · exact .inl z
        · exact .inr (.inl (by omega))
        · exact .inr (.inr z)
theorem of_good (xs : List Int) : (∃ b, Good b (ofP xs)) ∧ ∀ t, In (ofP xs) t ↔ t ∈ xs := by
  have hm : ∀ q, q ∈ sortI xs ↔ q ∈ xs := fun q => (List.mergeSort_perm xs leI).mem_iff
  have hs : (sortI xs).Pairwise (· ≤ ·) := (List.pairwise_mergeSort (le := leI) (fun a b c h1 h2 => by unfold leI at *; rw [decide_eq_true_eq] at *; omega) (fun a b => by unfold leI; rw [Bool.or_eq_true, decide_eq_true_eq, decide_eq_true_eq]; omega) xs).imp fun {a b} h => by
    unfold leI at h
    rw [decide_eq_true_eq] at h
    exact h
  unfold ofP
  cases e : sortI xs with
  | nil =>
    rw [e] at hm
    exact ⟨⟨0, trivial⟩, fun t => ⟨fun h => (In_nil h).elim, fun h => by have := (hm t).mpr h; simp at this⟩⟩
  | cons v r =>
    rw [e] at hs hm
    have hs' := List.pairwise_cons.mp hs
    obtain ⟨g1, g2⟩ := ofL_good (c := (v, v)) (r := r) (Int.le_refl _) (fun s hs => hs'.1 s hs) hs'.2
    refine ⟨⟨_, g1⟩, fun t => ?_⟩
    rw [ofR, g2, ← hm t, List.mem_cons]
    unfold on
    simp only
    constructor
    · rintro (z | z)
      · exact .inl (by omega)
      · exact .inr z
    · rintro (z | z)
      · exact .inl (by omega)
      · exact .inr z
/-- good spans are those of their minutes -/
theorem of_eq {b : Int} {xs : Sp} {ms : List Int} (g : Good b xs) (h : ∀ t, In xs t ↔ t ∈ ms) : xs = ofP ms := by
  obtain ⟨⟨c, g1⟩, g2⟩ := of_good ms
  exact g.uniq g1 fun t => by rw [h, g2]
/-! turned, shrunk, shifted -/
theorem turn_good {h : Int} : ∀ {b : Int} {xs : Sp} (f : Int), Good b xs → Good f ((turnL h f xs).filter fun s => decide (s.1 ≤ s.2) && decide (s.1 ≤ h)) ∧ ∀ t, In ((turnL h f xs).filter fun s => decide (s.1 ≤ s.2) && decide (s.1 ≤ h)) t ↔ (f ≤ t ∧ t ≤ h) ∧ ¬ In xs t
  | _, [], f, _ => by
    rw [turnL]
    by_cases hf : f ≤ h
    · rw [if_pos hf, List.filter_cons_of_pos (by simp [hf]), List.filter_nil]
      refine ⟨⟨Int.le_refl _, hf, trivial⟩, fun t => ?_⟩
      rw [In_cons]
      unfold on
      exact ⟨fun z => z.elim (fun z => ⟨z, In_nil⟩) fun z => (In_nil z).elim, fun z => .inl z.1⟩
    · rw [if_neg hf, List.filter_nil]
      exact ⟨trivial, fun t => ⟨fun z => (In_nil z).elim, fun z => by omega⟩⟩
  | b, q :: r, f, ⟨h1, h2, h3⟩ => by
    obtain ⟨g1, g2⟩ := turn_good (h := h) (max f (q.2 + 1)) h3
    have lo : ∀ t, In r t → q.2 + 2 ≤ t := fun t z => h3.lo z
    rw [turnL, List.filter_append]
    by_cases hf : f < q.1
    · rw [if_pos hf]
      by_cases hk : f ≤ h
      · rw [List.filter_cons_of_pos (by simp; omega), List.filter_nil]
        refine ⟨⟨Int.le_refl _, by simp only; omega, g1.le (by simp only; omega)⟩, fun t => ?_⟩
        rw [List.singleton_append, In_cons, g2, In_cons]
        unfold on
        simp only
        constructor
        · rintro (z | ⟨z1, z2⟩)
          · refine ⟨by omega, fun y => ?_⟩
            rcases y with y | y
            · omega
            · have := lo t y; omega
          · refine ⟨by omega, fun y => ?_⟩
            rcases y with y | y
            · omega
            · exact z2 y
        · rintro ⟨z1, z2⟩
          by_cases y : t < q.1
          · exact .inl (by omega)
          · refine .inr ⟨?_, fun w => z2 (.inr w)⟩
            have : ¬ (t ≤ q.2) := fun w => z2 (.inl ⟨by omega, w⟩)
            omega
      · rw [List.filter_cons_of_neg (by simp; omega), List.filter_nil, List.nil_append]
        refine ⟨g1.le (by omega), fun t => ?_⟩
        rw [g2, In_cons]
        exact ⟨fun z => by omega, fun z => by omega⟩
    · rw [if_neg hf, List.filter_nil, List.nil_append]
      refine ⟨g1.le (by omega), fun t => ?_⟩
      rw [g2, In_cons]
      unfold on
      constructor
      · rintro ⟨z1, z2⟩
        refine ⟨by omega, fun y => ?_⟩
        rcases y with y | y
        · omega
        · exact z2 y
      · rintro ⟨z1, z2⟩
        have : ¬ (t ≤ q.2) := fun w => z2 (.inl ⟨by omega, w⟩)
        exact ⟨by omega, fun w => z2 (.inr w)⟩
theorem shrunk_good {k : Int} (hk : 0 ≤ k) : ∀ {b : Int} {xs : Sp}, Good b xs → Good b (shrunkP xs k) ∧ ∀ t, In (shrunkP xs k) t ↔ ∃ q ∈ xs, q.1 ≤ t ∧ t + k ≤ q.2
  | _, [], _ => ⟨trivial, fun t => ⟨fun z => (In_nil z).elim, fun ⟨q, z, _⟩ => by simp at z⟩⟩
  | b, q :: r, ⟨h1, h2, h3⟩ => by
    obtain ⟨g1, g2⟩ := shrunk_good hk h3
    unfold shrunkP at g1 g2 ⊢
    by_cases h : q.1 ≤ q.2 - k
    · rw [List.filter_cons_of_pos (by simpa using h), List.map_cons]
      refine ⟨⟨h1, h, g1.le (by simp only; omega)⟩, fun t => ?_⟩
      rw [In_cons, g2]
      unfold on
      simp only [List.mem_cons]
      constructor
      · rintro (z | ⟨s, z1, z2⟩)
        · exact ⟨q, .inl rfl, by omega⟩
        · exact ⟨s, .inr z1, z2⟩
      · rintro ⟨s, rfl | z1, z2⟩
        · exact .inl (by omega)
        · exact .inr ⟨s, z1, z2⟩
    · rw [List.filter_cons_of_neg (by simpa using h)]
      refine ⟨g1.le (by omega), fun t => ?_⟩
      rw [g2]
      simp only [List.mem_cons]
      constructor
      · rintro ⟨s, z1, z2⟩; exact ⟨s, .inr z1, z2⟩
      · rintro ⟨s, rfl | z1, z2⟩
        · omega
        · exact ⟨s, z1, z2⟩
theorem shift_good (k : Int) : ∀ {b : Int} {xs : Sp}, Good b xs → Good (b + k) (shiftP xs k) ∧ ∀ t, In (shiftP xs k) t ↔ In xs (t - k)
  | _, [], _ => ⟨trivial, fun t => ⟨fun z => (In_nil z).elim, fun z => (In_nil z).elim⟩⟩
  | b, q :: r, ⟨h1, h2, h3⟩ => by
    obtain ⟨g1, g2⟩ := shift_good k h3
    unfold shiftP at g1 g2 ⊢
    rw [List.map_cons]
    refine ⟨⟨by simp only; omega, by simp only; omega, g1.le (by simp only; omega)⟩, fun t => ?_⟩
    rw [In_cons, In_cons, g2]
    unfold on
    simp only
    constructor
    · rintro (z | z)
      · exact .inl (by omega)
      · exact .inr z
    · rintro (z | z)
      · exact .inl (by omega)
      · exact .inr z
end K11
namespace K11
open PySem PD
theorem ne_oi (x y : Option Int) : gNe [oi x, oi y] = some (.bl (!decide (x = y))) := by
  cases x <;> cases y
  · rfl
  · rfl
  · rfl
  · rename_i a b
    show gNe [.int a, .int b] = _
    rw [v_nei]; simp
theorem eq_oi (x y : Option Int) : gEq [oi x, oi y] = some (.bl (decide (x = y))) := by
  cases x <;> cases y
  · rfl
  · rfl
  · rfl
  · rename_i a b
    show gEq [.int a, .int b] = _
    rw [v_eqi]; simp
theorem ne_str (z : Str) : gNe [.str z, .str z] = some (.bl false) := by
  show (if dp 60 (.str z) && dp 60 (.str z) then some (D.bl (!eqD (.str z) (.str z))) else none) = _
  have : eqD (.str z) (.str z) = true := by
    unfold eqD
    rw [toP, PyData.eqv]
    exact beq_self_eq_true z
  rw [this]; rfl
theorem head_if (A : List Int) {K : D → Prop} (h : K (oi A.head?)) : if decide (A = []) = false then has ((L2.atI (A.map D.int) 0).bind fun d => if isF d = true then some d else none) K else K .non := by
  cases A with
  | nil => exact h
  | cons a r =>
    simp only [reduceCtorEq, decide_false, if_true, List.map_cons, at_0, bind_S, isF_int, has_some]
    exact h
theorem last_if (A : List Int) {K : D → Prop} (h : K (oi A.getLast?)) : if decide (A = []) = false then has ((L2.atI (A.map D.int) (-1)).bind fun d => if isF d = true then some d else none) K else K .non := by
  rcases List.eq_nil_or_concat A with rfl | ⟨B, a, rfl⟩
  · exact h
  · have : decide (B ++ [a] = []) = false := by simp
    simp only [List.concat_eq_append] at h ⊢
    simp only [this, if_true, List.map_append, List.map_cons, List.map_nil, at_last, bind_S, isF_int, has_some]
    simpa [oi] using h
theorem lend_ro {m : Fl} (hm : RO m) (xs : List D) : lend (.lst m xs) = .lst m xs := by
  have h1 := hm.1; have h2 := hm.2 []
  cases m <;> first | rfl | exact absurd h1 (by decide) | exact absurd h2 (by decide)
theorem one_right {m n : Fl} (hm : RO m) (hn : RO n) {b : Int} {xs : Sp} (g : Good b xs) (hb : ∀ t, In xs t → 0 ≤ t ∧ t ≤ 40) (hl : xs.length ≤ 100) (t : Int) (ht : 0 ≤ t ∧ t < 45) : F__law_one_right [spD m xs, miD n (setP xs), .int t] = some (.ok (.bl true), [none, none, none]) := by
  have hr : ∀ t, In xs t → -60 ≤ t ∧ t < 130 := fun t h => by have := hb t h; omega
  have se := set_ex g hr
  have sl : (setP xs).length ≤ 190 := by
    have := List.length_filter_le (fun t => inP xs t) (mins (-60) 190)
    rw [mins_len] at this; exact this
  have f1 : nextP xs t = ((setP xs).filter fun v => decide (t ≤ v)).head? := by rw [se]; exact next_ex t g
  have f2 : lastP none xs t = ((setP xs).filter fun v => decide (v ≤ t)).getLast? := by rw [se, last_ex none t g, Option.or_none]
  have f3 : inP xs t = decide (t ∈ setP xs) := by
    rw [Bool.eq_iff_iff, inP_iff, decide_eq_true_eq, mem_set]
    exact ⟨fun h => ⟨by omega, h⟩, fun h => h.2⟩
  have f4 : lengthP xs = (setP xs).length := by rw [se]; exact len_ex g
  have f5 : rankP xs t = ((setP xs).filter fun v => decide (v < t)).length := by
    unfold rankP
    by_cases h0 : 0 < t
    · rw [if_pos h0]
      have g0 : Good 0 [((0 : Int), t - 1)] := ⟨Int.le_refl _, by simp only; omega, trivial⟩
      obtain ⟨k1, k2⟩ := meet_good g0 g
      rw [len_ex k1]
      congr 2
      refine Asc.uniq (ex_asc k1) ((set_asc xs).filter _) fun v => ?_
      rw [mem_ex k1, k2, List.mem_filter, mem_set, decide_eq_true_eq, In_cons]
      unfold on
      simp only
      constructor
      · rintro ⟨z1, z2 | z2⟩
        · exact ⟨⟨hr v z1, z1⟩, by omega⟩
        · exact (In_nil z2).elim
      · rintro ⟨z1, z2⟩
        have := hb v z1.2
        exact ⟨z1.2, .inl (by omega)⟩
    · rw [if_neg h0]
      have : (setP xs).filter (fun v => decide (v < t)) = [] := by
        rw [List.filter_eq_nil_iff]
        intro v hv
        have := hb v (mem_set.mp hv).2
        simp only [decide_eq_true_eq]; omega
      rw [this]; rfl
  have f6 : nthP xs t = (setP xs)[t.toNat]? := by rw [se]; exact nth_ex t g ht.1
  unfold F__law_one_right
  refine fn_go rfl ?_
  show Go ev__law_one_right [some (spD m xs), some (miD n (setP xs)), some (.int t), none, none, none] _
  have c1 := ok_next hm xs t
  have c2 := ok_last hm xs t
  have c3 := ok_inside hm xs t
  have c4 := ok_length hm xs (by omega)
  have c5 := ok_rank hm xs t (by omega)
  have c6 := ok_nth hm xs t
  have ci := v_in (f := D.int) (m := n) (a := t) (xs := setP xs) eqD_i (fun _ => by simp [dp]) (fun _ h => by cases h)
  let A := (setP xs).filter fun v => decide (t ≤ v)
  let B := (setP xs).filter fun v => decide (v ≤ t)
  have f1' : nextP xs t = A.head? := f1
  have f2' : lastP none xs t = B.getLast? := f2
  unfold ev__law_one_right
  refine step [some (spD m xs), some (miD n (setP xs)), some (.int t), some (miD .o A), none, none] (fun k Q hk => ?_) ?_
  · simp only [e_cst, e_nil, e_yes, e_var, e_fv, e_mv, e_cons, e_dfr, e_op, e_tup, e_lst, e_tr, e_notT, e_andT, e_orT, e_andV, e_orV, e_notV, e_opq, e_if, e_call, e_callM, e_chain, e_src, e_rng, e_lc, g_nx, g_retN, g_brk, g_cnt, g_seq, g_drop, g_ret, g_asg, g_if, g_for, g_app, g_set, kk_ok, kS_ok, kQ_nx, kQ_rt, kQ_bk, kQ_ct, has_some, sl_0, sl_s, st_0, st_s, v_add, v_sub, v_neg, v_lt, v_le, v_gt, v_ge, v_eqi, v_nei, v_is, v_isNot, v_len, v_lenT, v_abs, v_int, v_item, v_itemT, v_list, v_max, v_min, v_repr, blD_bl, truD_bl, truD_lst, isF_int, isF_bl, isF_non, isF_tup, isF_str, isF_lf, isF_lk, isF_lo, isF_ll, at_0, at_1, at_2, ix_0, ix_1, ix_2, cap_i, cap_t, noL_i, noL_n, noL_b, noL_t, ck_0, ck_s, lk_0, lk_1, lk_2, lk_3, lk_4, ln_0, ln_1, ln_2, ln_3, ln_4, own_o, own_l, own_f, its_o, its_l, its_f, lend_o, lend_i, lend_b, lend_n, lend_s, lend_t, cap_k, cap_f, lend_l, lend_f, sh_o, sh_l, sh_f, sh_k, Bool.or_true, Bool.true_or, Bool.or_false, Bool.false_or, intD, isLst, lstO, List.set_cons_zero, List.set_cons_succ, bind_S, forL_0, kL_nx, kL_ct, kL_bk, kL_rt, tg_n, tg_t, tg_0, tg_s, wp_0, wp_s, bk_0, bk_s, rd_0, rd_s, sb_a, sb_l, si_a, si_l, hd_0, out_t, out_f, argD, ite_self, List.map_cons, List.map_nil, List.append_nil, List.cons_append, List.nil_append, Bool.and_true, Bool.true_and, Bool.not_true, Bool.not_false, Bool.and_false, Bool.false_and, true_and, and_true, decide_eq_true_eq, Bool.false_eq_true, if_false, if_true, ite_true, ite_false, reduceIte, Bool.not_eq_true', itemsOf_lst hn.1, hn.2]
    refine has_cmpF (fun v => decide (t ≤ v)) (fun v : Int => v) .int cap_i' (setP xs) (by omega) (fun v _ => ?_) ?_
    · simp only [ct__law_one_right_0, ce__law_one_right_1, e_cst, e_nil, e_yes, e_var, e_fv, e_mv, e_cons, e_dfr, e_op, e_tup, e_lst, e_tr, e_notT, e_andT, e_orT, e_andV, e_orV, e_notV, e_opq, e_if, e_call, e_callM, e_chain, e_src, e_rng, e_lc, g_nx, g_retN, g_brk, g_cnt, g_seq, g_drop, g_ret, g_asg, g_if, g_for, g_app, g_set, kk_ok, kS_ok, kQ_nx, kQ_rt, kQ_bk, kQ_ct, has_some, sl_0, sl_s, st_0, st_s, v_add, v_sub, v_neg, v_lt, v_le, v_gt, v_ge, v_eqi, v_nei, v_is, v_isNot, v_len, v_lenT, v_abs, v_int, v_item, v_itemT, v_list, v_max, v_min, v_repr, blD_bl, truD_bl, truD_lst, isF_int, isF_bl, isF_non, isF_tup, isF_str, isF_lf, isF_lk, isF_lo, isF_ll, at_0, at_1, at_2, ix_0, ix_1, ix_2, cap_i, cap_t, noL_i, noL_n, noL_b, noL_t, ck_0, ck_s, lk_0, lk_1, lk_2, lk_3, lk_4, ln_0, ln_1, ln_2, ln_3, ln_4, own_o, own_l, own_f, its_o, its_l, its_f, lend_o, lend_i, lend_b, lend_n, lend_s, lend_t, cap_k, cap_f, lend_l, lend_f, sh_o, sh_l, sh_f, sh_k, Bool.or_true, Bool.true_or, Bool.or_false, Bool.false_or, intD, isLst, lstO, List.set_cons_zero, List.set_cons_succ, bind_S, forL_0, kL_nx, kL_ct, kL_bk, kL_rt, tg_n, tg_t, tg_0, tg_s, wp_0, wp_s, bk_0, bk_s, rd_0, rd_s, sb_a, sb_l, si_a, si_l, hd_0, out_t, out_f, argD, ite_self, List.map_cons, List.map_nil, List.append_nil, List.cons_append, List.nil_append, Bool.and_true, Bool.true_and, Bool.not_true, Bool.not_false, Bool.and_false, Bool.false_and, true_and, and_true, decide_eq_true_eq, Bool.false_eq_true, if_false, if_true, ite_true, ite_false, reduceIte, Bool.not_eq_true']
      try (by_cases h : t ≤ v <;> simp [h, e_cst, e_nil, e_yes, e_var, e_fv, e_mv, e_cons, e_dfr, e_op, e_tup, e_lst, e_tr, e_notT, e_andT, e_orT, e_andV, e_orV, e_notV, e_opq, e_if, e_call, e_callM, e_chain, e_src, e_rng, e_lc, g_nx, g_retN, g_brk, g_cnt, g_seq, g_drop, g_ret, g_asg, g_if, g_for, g_app, g_set, kk_ok, kS_ok, kQ_nx, kQ_rt, kQ_bk, kQ_ct, has_some, sl_0, sl_s, st_0, st_s, v_add, v_sub, v_neg, v_lt, v_le, v_gt, v_ge, v_eqi, v_nei, v_is, v_isNot, v_len, v_lenT, v_abs, v_int, v_item, v_itemT, v_list, v_max, v_min, v_repr, blD_bl, truD_bl, truD_lst, isF_int, isF_bl, isF_non, isF_tup, isF_str, isF_lf, isF_lk, isF_lo, isF_ll, at_0, at_1, at_2, ix_0, ix_1, ix_2, cap_i, cap_t, noL_i, noL_n, noL_b, noL_t, ck_0, ck_s, lk_0, lk_1, lk_2, lk_3, lk_4, ln_0, ln_1, ln_2, ln_3, ln_4, own_o, own_l, own_f, its_o, its_l, its_f, lend_o, lend_i, lend_b, lend_n, lend_s, lend_t, cap_k, cap_f, lend_l, lend_f, sh_o, sh_l, sh_f, sh_k, Bool.or_true, Bool.true_or, Bool.or_false, Bool.false_or, intD, isLst, lstO, List.set_cons_zero, List.set_cons_succ, bind_S, forL_0, kL_nx, kL_ct, kL_bk, kL_rt, tg_n, tg_t, tg_0, tg_s, wp_0, wp_s, bk_0, bk_s, rd_0, rd_s, sb_a, sb_l, si_a, si_l, hd_0, out_t, out_f, argD, ite_self, List.map_cons, List.map_nil, List.append_nil, List.cons_append, List.nil_append, Bool.and_true, Bool.true_and, Bool.not_true, Bool.not_false, Bool.and_false, Bool.false_and, true_and, and_true, decide_eq_true_eq, Bool.false_eq_true, if_false, if_true, ite_true, ite_false, reduceIte, Bool.not_eq_true'])
    · simp only [e_cst, e_nil, e_yes, e_var, e_fv, e_mv, e_cons, e_dfr, e_op, e_tup, e_lst, e_tr, e_notT, e_andT, e_orT, e_andV, e_orV, e_notV, e_opq, e_if, e_call, e_callM, e_chain, e_src, e_rng, e_lc, g_nx, g_retN, g_brk, g_cnt, g_seq, g_drop, g_ret, g_asg, g_if, g_for, g_app, g_set, kk_ok, kS_ok, kQ_nx, kQ_rt, kQ_bk, kQ_ct, has_some, sl_0, sl_s, st_0, st_s, v_add, v_sub, v_neg, v_lt, v_le, v_gt, v_ge, v_eqi, v_nei, v_is, v_isNot, v_len, v_lenT, v_abs, v_int, v_item, v_itemT, v_list, v_max, v_min, v_repr, blD_bl, truD_bl, truD_lst, isF_int, isF_bl, isF_non, isF_tup, isF_str, isF_lf, isF_lk, isF_lo, isF_ll, at_0, at_1, at_2, ix_0, ix_1, ix_2, cap_i, cap_t, noL_i, noL_n, noL_b, noL_t, ck_0, ck_s, lk_0, lk_1, lk_2, lk_3, lk_4, ln_0, ln_1, ln_2, ln_3, ln_4, own_o, own_l, own_f, its_o, its_l, its_f, lend_o, lend_i, lend_b, lend_n, lend_s, lend_t, cap_k, cap_f, lend_l, lend_f, sh_o, sh_l, sh_f, sh_k, Bool.or_true, Bool.true_or, Bool.or_false, Bool.false_or, intD, isLst, lstO, List.set_cons_zero, List.set_cons_succ, bind_S, forL_0, kL_nx, kL_ct, kL_bk, kL_rt, tg_n, tg_t, tg_0, tg_s, wp_0, wp_s, bk_0, bk_s, rd_0, rd_s, sb_a, sb_l, si_a, si_l, hd_0, out_t, out_f, argD, ite_self, List.map_cons, List.map_nil, List.append_nil, List.cons_append, List.nil_append, Bool.and_true, Bool.true_and, Bool.not_true, Bool.not_false, Bool.and_false, Bool.false_and, true_and, and_true, decide_eq_true_eq, Bool.false_eq_true, if_false, if_true, ite_true, ite_false, reduceIte, Bool.not_eq_true', List.map_id']
      exact hk
  refine step [some (spD m xs), some (miD n (setP xs)), some (.int t), some (miD .o A), some (miD .o B), none] (fun k Q hk => ?_) ?_
  · simp only [e_cst, e_nil, e_yes, e_var, e_fv, e_mv, e_cons, e_dfr, e_op, e_tup, e_lst, e_tr, e_notT, e_andT, e_orT, e_andV, e_orV, e_notV, e_opq, e_if, e_call, e_callM, e_chain, e_src, e_rng, e_lc, g_nx, g_retN, g_brk, g_cnt, g_seq, g_drop, g_ret, g_asg, g_if, g_for, g_app, g_set, kk_ok, kS_ok, kQ_nx, kQ_rt, kQ_bk, kQ_ct, has_some, sl_0, sl_s, st_0, st_s, v_add, v_sub, v_neg, v_lt, v_le, v_gt, v_ge, v_eqi, v_nei, v_is, v_isNot, v_len, v_lenT, v_abs, v_int, v_item, v_itemT, v_list, v_max, v_min, v_repr, blD_bl, truD_bl, truD_lst, isF_int, isF_bl, isF_non, isF_tup, isF_str, isF_lf, isF_lk, isF_lo, isF_ll, at_0, at_1, at_2, ix_0, ix_1, ix_2, cap_i, cap_t, noL_i, noL_n, noL_b, noL_t, ck_0, ck_s, lk_0, lk_1, lk_2, lk_3, lk_4, ln_0, ln_1, ln_2, ln_3, ln_4, own_o, own_l, own_f, its_o, its_l, its_f, lend_o, lend_i, lend_b, lend_n, lend_s, lend_t, cap_k, cap_f, lend_l, lend_f, sh_o, sh_l, sh_f, sh_k, Bool.or_true, Bool.true_or, Bool.or_false, Bool.false_or, intD, isLst, lstO, List.set_cons_zero, List.set_cons_succ, bind_S, forL_0, kL_nx, kL_ct, kL_bk, kL_rt, tg_n, tg_t, tg_0, tg_s, wp_0, wp_s, bk_0, bk_s, rd_0, rd_s, sb_a, sb_l, si_a, si_l, hd_0, out_t, out_f, argD, ite_self, List.map_cons, List.map_nil, List.append_nil, List.cons_append, List.nil_append, Bool.and_true, Bool.true_and, Bool.not_true, Bool.not_false, Bool.and_false, Bool.false_and, true_and, and_true, decide_eq_true_eq, Bool.false_eq_true, if_false, if_true, ite_true, ite_false, reduceIte, Bool.not_eq_true', itemsOf_lst hn.1, hn.2]
    refine has_cmpF (fun v => decide (v ≤ t)) (fun v : Int => v) .int cap_i' (setP xs) (by omega) (fun v _ => ?_) ?_
    · simp only [ct__law_one_right_2, ce__law_one_right_3, e_cst, e_nil, e_yes, e_var, e_fv, e_mv, e_cons, e_dfr, e_op, e_tup, e_lst, e_tr, e_notT, e_andT, e_orT, e_andV, e_orV, e_notV, e_opq, e_if, e_call, e_callM, e_chain, e_src, e_rng, e_lc, g_nx, g_retN, g_brk, g_cnt, g_seq, g_drop, g_ret, g_asg, g_if, g_for, g_app, g_set, kk_ok, kS_ok, kQ_nx, kQ_rt, kQ_bk, kQ_ct, has_some, sl_0, sl_s, st_0, st_s, v_add, v_sub, v_neg, v_lt, v_le, v_gt, v_ge, v_eqi, v_nei, v_is, v_isNot, v_len, v_lenT, v_abs, v_int, v_item, v_itemT, v_list, v_max, v_min, v_repr, blD_bl, truD_bl, truD_lst, isF_int, isF_bl, isF_non, isF_tup, isF_str, isF_lf, isF_lk, isF_lo, isF_ll, at_0, at_1, at_2, ix_0, ix_1, ix_2, cap_i, cap_t, noL_i, noL_n, noL_b, noL_t, ck_0, ck_s, lk_0, lk_1, lk_2, lk_3, lk_4, ln_0, ln_1, ln_2, ln_3, ln_4, own_o, own_l, own_f, its_o, its_l, its_f, lend_o, lend_i, lend_b, lend_n, lend_s, lend_t, cap_k, cap_f, lend_l, lend_f, sh_o, sh_l, sh_f, sh_k, Bool.or_true, Bool.true_or, Bool.or_false, Bool.false_or, intD, isLst, lstO, List.set_cons_zero, List.set_cons_succ, bind_S, forL_0, kL_nx, kL_ct, kL_bk, kL_rt, tg_n, tg_t, tg_0, tg_s, wp_0, wp_s, bk_0, bk_s, rd_0, rd_s, sb_a, sb_l, si_a, si_l, hd_0, out_t, out_f, argD, ite_self, List.map_cons, List.map_nil, List.append_nil, List.cons_append, List.nil_append, Bool.and_true, Bool.true_and, Bool.not_true, Bool.not_false, Bool.and_false, Bool.false_and, true_and, and_true, decide_eq_true_eq, Bool.false_eq_true, if_false, if_true, ite_true, ite_false, reduceIte, Bool.not_eq_true']
      try (by_cases h : v ≤ t <;> simp [h, e_cst, e_nil, e_yes, e_var, e_fv, e_mv, e_cons, e_dfr, e_op, e_tup, e_lst, e_tr, e_notT, e_andT, e_orT, e_andV, e_orV, e_notV, e_opq, e_if, e_call, e_callM, e_chain, e_src, e_rng, e_lc, g_nx, g_retN, g_brk, g_cnt, g_seq, g_drop, g_ret, g_asg, g_if, g_for, g_app, g_set, kk_ok, kS_ok, kQ_nx, kQ_rt, kQ_bk, kQ_ct, has_some, sl_0, sl_s, st_0, st_s, v_add, v_sub, v_neg, v_lt, v_le, v_gt, v_ge, v_eqi, v_nei, v_is, v_isNot, v_len, v_lenT, v_abs, v_int, v_item, v_itemT, v_list, v_max, v_min, v_repr, blD_bl, truD_bl, truD_lst, isF_int, isF_bl, isF_non, isF_tup, isF_str, isF_lf, isF_lk, isF_lo, isF_ll, at_0, at_1, at_2, ix_0, ix_1, ix_2, cap_i, cap_t, noL_i, noL_n, noL_b, noL_t, ck_0, ck_s, lk_0, lk_1, lk_2, lk_3, lk_4, ln_0, ln_1, ln_2, ln_3, ln_4, own_o, own_l, own_f, its_o, its_l, its_f, lend_o, lend_i, lend_b, lend_n, lend_s, lend_t, cap_k, cap_f, lend_l, lend_f, sh_o, sh_l, sh_f, sh_k, Bool.or_true, Bool.true_or, Bool.or_false, Bool.false_or, intD, isLst, lstO, List.set_cons_zero, List.set_cons_succ, bind_S, forL_0, kL_nx, kL_ct, kL_bk, kL_rt, tg_n, tg_t, tg_0, tg_s, wp_0, wp_s, bk_0, bk_s, rd_0, rd_s, sb_a, sb_l, si_a, si_l, hd_0, out_t, out_f, argD, ite_self, List.map_cons, List.map_nil, List.append_nil, List.cons_append, List.nil_append, Bool.and_true, Bool.true_and, Bool.not_true, Bool.not_false, Bool.and_false, Bool.false_and, true_and, and_true, decide_eq_true_eq, Bool.false_eq_true, if_false, if_true, ite_true, ite_false, reduceIte, Bool.not_eq_true'])
    · simp only [e_cst, e_nil, e_yes, e_var, e_fv, e_mv, e_cons, e_dfr, e_op, e_tup, e_lst, e_tr, e_notT, e_andT, e_orT, e_andV, e_orV, e_notV, e_opq, e_if, e_call, e_callM, e_chain, e_src, e_rng, e_lc, g_nx, g_retN, g_brk, g_cnt, g_seq, g_drop, g_ret, g_asg, g_if, g_for, g_app, g_set, kk_ok, kS_ok, kQ_nx, kQ_rt, kQ_bk, kQ_ct, has_some, sl_0, sl_s, st_0, st_s, v_add, v_sub, v_neg, v_lt, v_le, v_gt, v_ge, v_eqi, v_nei, v_is, v_isNot, v_len, v_lenT, v_abs, v_int, v_item, v_itemT, v_list, v_max, v_min, v_repr, blD_bl, truD_bl, truD_lst, isF_int, isF_bl, isF_non, isF_tup, isF_str, isF_lf, isF_lk, isF_lo, isF_ll, at_0, at_1, at_2, ix_0, ix_1, ix_2, cap_i, cap_t, noL_i, noL_n, noL_b, noL_t, ck_0, ck_s, lk_0, lk_1, lk_2, lk_3, lk_4, ln_0, ln_1, ln_2, ln_3, ln_4, own_o, own_l, own_f, its_o, its_l, its_f, lend_o, lend_i, lend_b, lend_n, lend_s, lend_t, cap_k, cap_f, lend_l, lend_f, sh_o, sh_l, sh_f, sh_k, Bool.or_true, Bool.true_or, Bool.or_false, Bool.false_or, intD, isLst, lstO, List.set_cons_zero, List.set_cons_succ, bind_S, forL_0, kL_nx, kL_ct, kL_bk, kL_rt, tg_n, tg_t, tg_0, tg_s, wp_0, wp_s, bk_0, bk_s, rd_0, rd_s, sb_a, sb_l, si_a, si_l, hd_0, out_t, out_f, argD, ite_self, List.map_cons, List.map_nil, List.append_nil, List.cons_append, List.nil_append, Bool.and_true, Bool.true_and, Bool.not_true, Bool.not_false, Bool.and_false, Bool.false_and, true_and, and_true, decide_eq_true_eq, Bool.false_eq_true, if_false, if_true, ite_true, ite_false, reduceIte, Bool.not_eq_true', List.map_id']
      exact hk
  refine step [some (spD m xs), some (miD n (setP xs)), some (.int t), some (miD .o A), some (miD .o B), none] (fun k Q hk => ?_) ?_
  · simp only [e_cst, e_nil, e_yes, e_var, e_fv, e_mv, e_cons, e_dfr, e_op, e_tup, e_lst, e_tr, e_notT, e_andT, e_orT, e_andV, e_orV, e_notV, e_opq, e_if, e_call, e_callM, e_chain, e_src, e_rng, e_lc, g_nx, g_retN, g_brk, g_cnt, g_seq, g_drop, g_ret, g_asg, g_if, g_for, g_app, g_set, kk_ok, kS_ok, kQ_nx, kQ_rt, kQ_bk, kQ_ct, has_some, sl_0, sl_s, st_0, st_s, v_add, v_sub, v_neg, v_lt, v_le, v_gt, v_ge, v_eqi, v_nei, v_is, v_isNot, v_len, v_lenT, v_abs, v_int, v_item, v_itemT, v_list, v_max, v_min, v_repr, blD_bl, truD_bl, truD_lst, isF_int, isF_bl, isF_non, isF_tup, isF_str, isF_lf, isF_lk, isF_lo, isF_ll, at_0, at_1, at_2, ix_0, ix_1, ix_2, cap_i, cap_t, noL_i, noL_n, noL_b, noL_t, ck_0, ck_s, lk_0, lk_1, lk_2, lk_3, lk_4, ln_0, ln_1, ln_2, ln_3, ln_4, own_o, own_l, own_f, its_o, its_l, its_f, lend_o, lend_i, lend_b, lend_n, lend_s, lend_t, cap_k, cap_f, lend_l, lend_f, sh_o, sh_l, sh_f, sh_k, Bool.or_true, Bool.true_or, Bool.or_false, Bool.false_or, intD, isLst, lstO, List.set_cons_zero, List.set_cons_succ, bind_S, forL_0, kL_nx, kL_ct, kL_bk, kL_rt, tg_n, tg_t, tg_0, tg_s, wp_0, wp_s, bk_0, bk_s, rd_0, rd_s, sb_a, sb_l, si_a, si_l, hd_0, out_t, out_f, argD, ite_self, List.map_cons, List.map_nil, List.append_nil, List.cons_append, List.nil_append, Bool.and_true, Bool.true_and, Bool.not_true, Bool.not_false, Bool.and_false, Bool.false_and, true_and, and_true, decide_eq_true_eq, Bool.false_eq_true, if_false, if_true, ite_true, ite_false, reduceIte, Bool.not_eq_true', lend_ro hm, c1, c2, ne_in]
    refine head_if A ?_
    simp only [ne_oi, f1', e_cst, e_nil, e_yes, e_var, e_fv, e_mv, e_cons, e_dfr, e_op, e_tup, e_lst, e_tr, e_notT, e_andT, e_orT, e_andV, e_orV, e_notV, e_opq, e_if, e_call, e_callM, e_chain, e_src, e_rng, e_lc, g_nx, g_retN, g_brk, g_cnt, g_seq, g_drop, g_ret, g_asg, g_if, g_for, g_app, g_set, kk_ok, kS_ok, kQ_nx, kQ_rt, kQ_bk, kQ_ct, has_some, sl_0, sl_s, st_0, st_s, v_add, v_sub, v_neg, v_lt, v_le, v_gt, v_ge, v_eqi, v_nei, v_is, v_isNot, v_len, v_lenT, v_abs, v_int, v_item, v_itemT, v_list, v_max, v_min, v_repr, blD_bl, truD_bl, truD_lst, isF_int, isF_bl, isF_non, isF_tup, isF_str, isF_lf, isF_lk, isF_lo, isF_ll, at_0, at_1, at_2, ix_0, ix_1, ix_2, cap_i, cap_t, noL_i, noL_n, noL_b, noL_t, ck_0, ck_s, lk_0, lk_1, lk_2, lk_3, lk_4, ln_0, ln_1, ln_2, ln_3, ln_4, own_o, own_l, own_f, its_o, its_l, its_f, lend_o, lend_i, lend_b, lend_n, lend_s, lend_t, cap_k, cap_f, lend_l, lend_f, sh_o, sh_l, sh_f, sh_k, Bool.or_true, Bool.true_or, Bool.or_false, Bool.false_or, intD, isLst, lstO, List.set_cons_zero, List.set_cons_succ, bind_S, forL_0, kL_nx, kL_ct, kL_bk, kL_rt, tg_n, tg_t, tg_0, tg_s, wp_0, wp_s, bk_0, bk_s, rd_0, rd_s, sb_a, sb_l, si_a, si_l, hd_0, out_t, out_f, argD, ite_self, List.map_cons, List.map_nil, List.append_nil, List.cons_append, List.nil_append, Bool.and_true, Bool.true_and, Bool.not_true, Bool.not_false, Bool.and_false, Bool.false_and, true_and, and_true, decide_eq_true_eq, Bool.false_eq_true, if_false, if_true, ite_true, ite_false, reduceIte, Bool.not_eq_true', decide_true, eq_self, Bool.true_eq_false]
    refine last_if B ?_
    simp only [ne_oi, f2', e_cst, e_nil, e_yes, e_var, e_fv, e_mv, e_cons, e_dfr, e_op, e_tup, e_lst, e_tr, e_notT, e_andT, e_orT, e_andV, e_orV, e_notV, e_opq, e_if, e_call, e_callM, e_chain, e_src, e_rng, e_lc, g_nx, g_retN, g_brk, g_cnt, g_seq, g_drop, g_ret, g_asg, g_if, g_for, g_app, g_set, kk_ok, kS_ok, kQ_nx, kQ_rt, kQ_bk, kQ_ct, has_some, sl_0, sl_s, st_0, st_s, v_add, v_sub, v_neg, v_lt, v_le, v_gt, v_ge, v_eqi, v_nei, v_is, v_isNot, v_len, v_lenT, v_abs, v_int, v_item, v_itemT, v_list, v_max, v_min, v_repr, blD_bl, truD_bl, truD_lst, isF_int, isF_bl, isF_non, isF_tup, isF_str, isF_lf, isF_lk, isF_lo, isF_ll, at_0, at_1, at_2, ix_0, ix_1, ix_2, cap_i, cap_t, noL_i, noL_n, noL_b, noL_t, ck_0, ck_s, lk_0, lk_1, lk_2, lk_3, lk_4, ln_0, ln_1, ln_2, ln_3, ln_4, own_o, own_l, own_f, its_o, its_l, its_f, lend_o, lend_i, lend_b, lend_n, lend_s, lend_t, cap_k, cap_f, lend_l, lend_f, sh_o, sh_l, sh_f, sh_k, Bool.or_true, Bool.true_or, Bool.or_false, Bool.false_or, intD, isLst, lstO, List.set_cons_zero, List.set_cons_succ, bind_S, forL_0, kL_nx, kL_ct, kL_bk, kL_rt, tg_n, tg_t, tg_0, tg_s, wp_0, wp_s, bk_0, bk_s, rd_0, rd_s, sb_a, sb_l, si_a, si_l, hd_0, out_t, out_f, argD, ite_self, List.map_cons, List.map_nil, List.append_nil, List.cons_append, List.nil_append, Bool.and_true, Bool.true_and, Bool.not_true, Bool.not_false, Bool.and_false, Bool.false_and, true_and, and_true, decide_eq_true_eq, Bool.false_eq_true, if_false, if_true, ite_true, ite_false, reduceIte, Bool.not_eq_true', decide_true, eq_self, Bool.true_eq_false]
    exact hk
  refine step [some (spD m xs), some (miD n (setP xs)), some (.int t), some (miD .o A), some (miD .o B), none] (fun k Q hk => ?_) ?_
  · simp only [e_cst, e_nil, e_yes, e_var, e_fv, e_mv, e_cons, e_dfr, e_op, e_tup, e_lst, e_tr, e_notT, e_andT, e_orT, e_andV, e_orV, e_notV, e_opq, e_if, e_call, e_callM, e_chain, e_src, e_rng, e_lc, g_nx, g_retN, g_brk, g_cnt, g_seq, g_drop, g_ret, g_asg, g_if, g_for, g_app, g_set, kk_ok, kS_ok, kQ_nx, kQ_rt, kQ_bk, kQ_ct, has_some, sl_0, sl_s, st_0, st_s, v_add, v_sub, v_neg, v_lt, v_le, v_gt, v_ge, v_eqi, v_nei, v_is, v_isNot, v_len, v_lenT, v_abs, v_int, v_item, v_itemT, v_list, v_max, v_min, v_repr, blD_bl, truD_bl, truD_lst, isF_int, isF_bl, isF_non, isF_tup, isF_str, isF_lf, isF_lk, isF_lo, isF_ll, at_0, at_1, at_2, ix_0, ix_1, ix_2, cap_i, cap_t, noL_i, noL_n, noL_b, noL_t, ck_0, ck_s, lk_0, lk_1, lk_2, lk_3, lk_4, ln_0, ln_1, ln_2, ln_3, ln_4, own_o, own_l, own_f, its_o, its_l, its_f, lend_o, lend_i, lend_b, lend_n, lend_s, lend_t, cap_k, cap_f, lend_l, lend_f, sh_o, sh_l, sh_f, sh_k, Bool.or_true, Bool.true_or, Bool.or_false, Bool.false_or, intD, isLst, lstO, List.set_cons_zero, List.set_cons_succ, bind_S, forL_0, kL_nx, kL_ct, kL_bk, kL_rt, tg_n, tg_t, tg_0, tg_s, wp_0, wp_s, bk_0, bk_s, rd_0, rd_s, sb_a, sb_l, si_a, si_l, hd_0, out_t, out_f, argD, ite_self, List.map_cons, List.map_nil, List.append_nil, List.cons_append, List.nil_append, Bool.and_true, Bool.true_and, Bool.not_true, Bool.not_false, Bool.and_false, Bool.false_and, true_and, and_true, decide_eq_true_eq, Bool.false_eq_true, if_false, if_true, ite_true, ite_false, reduceIte, Bool.not_eq_true', lend_ro hm, c3, c4, ci, f3, f4, ne_str, List.length_map]
    simp [hk]
  refine step [some (spD m xs), some (miD n (setP xs)), some (.int t), some (miD .o A), some (miD .o B), none] (fun k Q hk => ?_) ?_
  · simp only [e_cst, e_nil, e_yes, e_var, e_fv, e_mv, e_cons, e_dfr, e_op, e_tup, e_lst, e_tr, e_notT, e_andT, e_orT, e_andV, e_orV, e_notV, e_opq, e_if, e_call, e_callM, e_chain, e_src, e_rng, e_lc, g_nx, g_retN, g_brk, g_cnt, g_seq, g_drop, g_ret, g_asg, g_if, g_for, g_app, g_set, kk_ok, kS_ok, kQ_nx, kQ_rt, kQ_bk, kQ_ct, has_some, sl_0, sl_s, st_0, st_s, v_add, v_sub, v_neg, v_lt, v_le, v_gt, v_ge, v_eqi, v_nei, v_is, v_isNot, v_len, v_lenT, v_abs, v_int, v_item, v_itemT, v_list, v_max, v_min, v_repr, blD_bl, truD_bl, truD_lst, isF_int, isF_bl, isF_non, isF_tup, isF_str, isF_lf, isF_lk, isF_lo, isF_ll, at_0, at_1, at_2, ix_0, ix_1, ix_2, cap_i, cap_t, noL_i, noL_n, noL_b, noL_t, ck_0, ck_s, lk_0, lk_1, lk_2, lk_3, lk_4, ln_0, ln_1, ln_2, ln_3, ln_4, own_o, own_l, own_f, its_o, its_l, its_f, lend_o, lend_i, lend_b, lend_n, lend_s, lend_t, cap_k, cap_f, lend_l, lend_f, sh_o, sh_l, sh_f, sh_k, Bool.or_true, Bool.true_or, Bool.or_false, Bool.false_or, intD, isLst, lstO, List.set_cons_zero, List.set_cons_succ, bind_S, forL_0, kL_nx, kL_ct, kL_bk, kL_rt, tg_n, tg_t, tg_0, tg_s, wp_0, wp_s, bk_0, bk_s, rd_0, rd_s, sb_a, sb_l, si_a, si_l, hd_0, out_t, out_f, argD, ite_self, List.map_cons, List.map_nil, List.append_nil, List.cons_append, List.nil_append, Bool.and_true, Bool.true_and, Bool.not_true, Bool.not_false, Bool.and_false, Bool.false_and, true_and, and_true, decide_eq_true_eq, Bool.false_eq_true, if_false, if_true, ite_true, ite_false, reduceIte, Bool.not_eq_true', lend_ro hm, c5, itemsOf_lst hn.1, hn.2]
    refine has_cmpF (fun v => decide (v < t)) (fun v : Int => v) .int cap_i' (setP xs) (by omega) (fun v _ => ?_) ?_
    · simp only [ct__law_one_right_4, ce__law_one_right_5, e_cst, e_nil, e_yes, e_var, e_fv, e_mv, e_cons, e_dfr, e_op, e_tup, e_lst, e_tr, e_notT, e_andT, e_orT, e_andV, e_orV, e_notV, e_opq, e_if, e_call, e_callM, e_chain, e_src, e_rng, e_lc, g_nx, g_retN, g_brk, g_cnt, g_seq, g_drop, g_ret, g_asg, g_if, g_for, g_app, g_set, kk_ok, kS_ok, kQ_nx, kQ_rt, kQ_bk, kQ_ct, has_some, sl_0, sl_s, st_0, st_s, v_add, v_sub, v_neg, v_lt, v_le, v_gt, v_ge, v_eqi, v_nei, v_is, v_isNot, v_len, v_lenT, v_abs, v_int, v_item, v_itemT, v_list, v_max, v_min, v_repr, blD_bl, truD_bl, truD_lst, isF_int, isF_bl, isF_non, isF_tup, isF_str, isF_lf, isF_lk, isF_lo, isF_ll, at_0, at_1, at_2, ix_0, ix_1, ix_2, cap_i, cap_t, noL_i, noL_n, noL_b, noL_t, ck_0, ck_s, lk_0, lk_1, lk_2, lk_3, lk_4, ln_0, ln_1, ln_2, ln_3, ln_4, own_o, own_l, own_f, its_o, its_l, its_f, lend_o, lend_i, lend_b, lend_n, lend_s, lend_t, cap_k, cap_f, lend_l, lend_f, sh_o, sh_l, sh_f, sh_k, Bool.or_true, Bool.true_or, Bool.or_false, Bool.false_or, intD, isLst, lstO, List.set_cons_zero, List.set_cons_succ, bind_S, forL_0, kL_nx, kL_ct, kL_bk, kL_rt, tg_n, tg_t, tg_0, tg_s, wp_0, wp_s, bk_0, bk_s, rd_0, rd_s, sb_a, sb_l, si_a, si_l, hd_0, out_t, out_f, argD, ite_self, List.map_cons, List.map_nil, List.append_nil, List.cons_append, List.nil_append, Bool.and_true, Bool.true_and, Bool.not_true, Bool.not_false, Bool.and_false, Bool.false_and, true_and, and_true, decide_eq_true_eq, Bool.false_eq_true, if_false, if_true, ite_true, ite_false, reduceIte, Bool.not_eq_true']
      try (by_cases h : v < t <;> simp [h, e_cst, e_nil, e_yes, e_var, e_fv, e_mv, e_cons, e_dfr, e_op, e_tup, e_lst, e_tr, e_notT, e_andT, e_orT, e_andV, e_orV, e_notV, e_opq, e_if, e_call, e_callM, e_chain, e_src, e_rng, e_lc, g_nx, g_retN, g_brk, g_cnt, g_seq, g_drop, g_ret, g_asg, g_if, g_for, g_app, g_set, kk_ok, kS_ok, kQ_nx, kQ_rt, kQ_bk, kQ_ct, has_some, sl_0, sl_s, st_0, st_s, v_add, v_sub, v_neg, v_lt, v_le, v_gt, v_ge, v_eqi, v_nei, v_is, v_isNot, v_len, v_lenT, v_abs, v_int, v_item, v_itemT, v_list, v_max, v_min, v_repr, blD_bl, truD_bl, truD_lst, isF_int, isF_bl, isF_non, isF_tup, isF_str, isF_lf, isF_lk, isF_lo, isF_ll, at_0, at_1, at_2, ix_0, ix_1, ix_2, cap_i, cap_t, noL_i, noL_n, noL_b, noL_t, ck_0, ck_s, lk_0, lk_1, lk_2, lk_3, lk_4, ln_0, ln_1, ln_2, ln_3, ln_4, own_o, own_l, own_f, its_o, its_l, its_f, lend_o, lend_i, lend_b, lend_n, lend_s, lend_t, cap_k, cap_f, lend_l, lend_f, sh_o, sh_l, sh_f, sh_k, Bool.or_true, Bool.true_or, Bool.or_false, Bool.false_or, intD, isLst, lstO, List.set_cons_zero, List.set_cons_succ, bind_S, forL_0, kL_nx, kL_ct, kL_bk, kL_rt, tg_n, tg_t, tg_0, tg_s, wp_0, wp_s, bk_0, bk_s, rd_0, rd_s, sb_a, sb_l, si_a, si_l, hd_0, out_t, out_f, argD, ite_self, List.map_cons, List.map_nil, List.append_nil, List.cons_append, List.nil_append, Bool.and_true, Bool.true_and, Bool.not_true, Bool.not_false, Bool.and_false, Bool.false_and, true_and, and_true, decide_eq_true_eq, Bool.false_eq_true, if_false, if_true, ite_true, ite_false, reduceIte, Bool.not_eq_true'])
    · simp only [e_cst, e_nil, e_yes, e_var, e_fv, e_mv, e_cons, e_dfr, e_op, e_tup, e_lst, e_tr, e_notT, e_andT, e_orT, e_andV, e_orV, e_notV, e_opq, e_if, e_call, e_callM, e_chain, e_src, e_rng, e_lc, g_nx, g_retN, g_brk, g_cnt, g_seq, g_drop, g_ret, g_asg, g_if, g_for, g_app, g_set, kk_ok, kS_ok, kQ_nx, kQ_rt, kQ_bk, kQ_ct, has_some, sl_0, sl_s, st_0, st_s, v_add, v_sub, v_neg, v_lt, v_le, v_gt, v_ge, v_eqi, v_nei, v_is, v_isNot, v_len, v_lenT, v_abs, v_int, v_item, v_itemT, v_list, v_max, v_min, v_repr, blD_bl, truD_bl, truD_lst, isF_int, isF_bl, isF_non, isF_tup, isF_str, isF_lf, isF_lk, isF_lo, isF_ll, at_0, at_1, at_2, ix_0, ix_1, ix_2, cap_i, cap_t, noL_i, noL_n, noL_b, noL_t, ck_0, ck_s, lk_0, lk_1, lk_2, lk_3, lk_4, ln_0, ln_1, ln_2, ln_3, ln_4, own_o, own_l, own_f, its_o, its_l, its_f, lend_o, lend_i, lend_b, lend_n, lend_s, lend_t, cap_k, cap_f, lend_l, lend_f, sh_o, sh_l, sh_f, sh_k, Bool.or_true, Bool.true_or, Bool.or_false, Bool.false_or, intD, isLst, lstO, List.set_cons_zero, List.set_cons_succ, bind_S, forL_0, kL_nx, kL_ct, kL_bk, kL_rt, tg_n, tg_t, tg_0, tg_s, wp_0, wp_s, bk_0, bk_s, rd_0, rd_s, sb_a, sb_l, si_a, si_l, hd_0, out_t, out_f, argD, ite_self, List.map_cons, List.map_nil, List.append_nil, List.cons_append, List.nil_append, Bool.and_true, Bool.true_and, Bool.not_true, Bool.not_false, Bool.and_false, Bool.false_and, true_and, and_true, decide_eq_true_eq, Bool.false_eq_true, if_false, if_true, ite_true, ite_false, reduceIte, Bool.not_eq_true', List.map_id', f5, List.length_map]
      simp [hk]
  simp only [e_cst, e_nil, e_yes, e_var, e_fv, e_mv, e_cons, e_dfr, e_op, e_tup, e_lst, e_tr, e_notT, e_andT, e_orT, e_andV, e_orV, e_notV, e_opq, e_if, e_call, e_callM, e_chain, e_src, e_rng, e_lc, g_nx, g_retN, g_brk, g_cnt, g_seq, g_drop, g_ret, g_asg, g_if, g_for, g_app, g_set, kk_ok, kS_ok, kQ_nx, kQ_rt, kQ_bk, kQ_ct, has_some, sl_0, sl_s, st_0, st_s, v_add, v_sub, v_neg, v_lt, v_le, v_gt, v_ge, v_eqi, v_nei, v_is, v_isNot, v_len, v_lenT, v_abs, v_int, v_item, v_itemT, v_list, v_max, v_min, v_repr, blD_bl, truD_bl, truD_lst, isF_int, isF_bl, isF_non, isF_tup, isF_str, isF_lf, isF_lk, isF_lo, isF_ll, at_0, at_1, at_2, ix_0, ix_1, ix_2, cap_i, cap_t, noL_i, noL_n, noL_b, noL_t, ck_0, ck_s, lk_0, lk_1, lk_2, lk_3, lk_4, ln_0, ln_1, ln_2, ln_3, ln_4, own_o, own_l, own_f, its_o, its_l, its_f, lend_o, lend_i, lend_b, lend_n, lend_s, lend_t, cap_k, cap_f, lend_l, lend_f, sh_o, sh_l, sh_f, sh_k, Bool.or_true, Bool.true_or, Bool.or_false, Bool.false_or, intD, isLst, lstO, List.set_cons_zero, List.set_cons_succ, bind_S, forL_0, kL_nx, kL_ct, kL_bk, kL_rt, tg_n, tg_t, tg_0, tg_s, wp_0, wp_s, bk_0, bk_s, rd_0, rd_s, sb_a, sb_l, si_a, si_l, hd_0, out_t, out_f, argD, ite_self, List.map_cons, List.map_nil, List.append_nil, List.cons_append, List.nil_append, Bool.and_true, Bool.true_and, Bool.not_true, Bool.not_false, Bool.and_false, Bool.false_and, true_and, and_true, decide_eq_true_eq, Bool.false_eq_true, if_false, if_true, ite_true, ite_false, reduceIte, Bool.not_eq_true', lend_ro hm, c6, List.length_map]
  by_cases h : t < ((setP xs).length : Int)
  · have hk : t.toNat < (setP xs).length := by omega
    have ea : L2.atI ((setP xs).map D.int) t = some (.int (setP xs)[t.toNat]) := by
      have := at_nat (xs := (setP xs).map D.int) (k := t.toNat) (by simpa using hk)
      rw [show ((t.toNat : Nat) : Int) = t by omega] at this
      rw [this]; simp
    have e6 : nthP xs t = some (setP xs)[t.toNat] := by rw [f6]; simp [hk]
    simp only [h, ea, e6, oi, e_cst, e_nil, e_yes, e_var, e_fv, e_mv, e_cons, e_dfr, e_op, e_tup, e_lst, e_tr, e_notT, e_andT, e_orT, e_andV, e_orV, e_notV, e_opq, e_if, e_call, e_callM, e_chain, e_src, e_rng, e_lc, g_nx, g_retN, g_brk, g_cnt, g_seq, g_drop, g_ret, g_asg, g_if, g_for, g_app, g_set, kk_ok, kS_ok, kQ_nx, kQ_rt, kQ_bk, kQ_ct, has_some, sl_0, sl_s, st_0, st_s, v_add, v_sub, v_neg, v_lt, v_le, v_gt, v_ge, v_eqi, v_nei, v_is, v_isNot, v_len, v_lenT, v_abs, v_int, v_item, v_itemT, v_list, v_max, v_min, v_repr, blD_bl, truD_bl, truD_lst, isF_int, isF_bl, isF_non, isF_tup, isF_str, isF_lf, isF_lk, isF_lo, isF_ll, at_0, at_1, at_2, ix_0, ix_1, ix_2, cap_i, cap_t, noL_i, noL_n, noL_b, noL_t, ck_0, ck_s, lk_0, lk_1, lk_2, lk_3, lk_4, ln_0, ln_1, ln_2, ln_3, ln_4, own_o, own_l, own_f, its_o, its_l, its_f, lend_o, lend_i, lend_b, lend_n, lend_s, lend_t, cap_k, cap_f, lend_l, lend_f, sh_o, sh_l, sh_f, sh_k, Bool.or_true, Bool.true_or, Bool.or_false, Bool.false_or, intD, isLst, lstO, List.set_cons_zero, List.set_cons_succ, bind_S, forL_0, kL_nx, kL_ct, kL_bk, kL_rt, tg_n, tg_t, tg_0, tg_s, wp_0, wp_s, bk_0, bk_s, rd_0, rd_s, sb_a, sb_l, si_a, si_l, hd_0, out_t, out_f, argD, ite_self, List.map_cons, List.map_nil, List.append_nil, List.cons_append, List.nil_append, Bool.and_true, Bool.true_and, Bool.not_true, Bool.not_false, Bool.and_false, Bool.false_and, true_and, and_true, decide_eq_true_eq, Bool.false_eq_true, if_false, if_true, ite_true, ite_false, reduceIte, Bool.not_eq_true', decide_true, eq_self]
    rfl
  · have e6 : nthP xs t = none := by rw [f6, List.getElem?_eq_none (by omega)]
    have en : gEq [.non, .non] = some (.bl true) := rfl
    simp only [h, e6, oi, en, e_cst, e_nil, e_yes, e_var, e_fv, e_mv, e_cons, e_dfr, e_op, e_tup, e_lst, e_tr, e_notT, e_andT, e_orT, e_andV, e_orV, e_notV, e_opq, e_if, e_call, e_callM, e_chain, e_src, e_rng, e_lc, g_nx, g_retN, g_brk, g_cnt, g_seq, g_drop, g_ret, g_asg, g_if, g_for, g_app, g_set, kk_ok, kS_ok, kQ_nx, kQ_rt, kQ_bk, kQ_ct, has_some, sl_0, sl_s, st_0, st_s, v_add, v_sub, v_neg, v_lt, v_le, v_gt, v_ge, v_eqi, v_nei, v_is, v_isNot, v_len, v_lenT, v_abs, v_int, v_item, v_itemT, v_list, v_max, v_min, v_repr, blD_bl, truD_bl, truD_lst, isF_int, isF_bl, isF_non, isF_tup, isF_str, isF_lf, isF_lk, isF_lo, isF_ll, at_0, at_1, at_2, ix_0, ix_1, ix_2, cap_i, cap_t, noL_i, noL_n, noL_b, noL_t, ck_0, ck_s, lk_0, lk_1, lk_2, lk_3, lk_4, ln_0, ln_1, ln_2, ln_3, ln_4, own_o, own_l, own_f, its_o, its_l, its_f, lend_o, lend_i, lend_b, lend_n, lend_s, lend_t, cap_k, cap_f, lend_l, lend_f, sh_o, sh_l, sh_f, sh_k, Bool.or_true, Bool.true_or, Bool.or_false, Bool.false_or, intD, isLst, lstO, List.set_cons_zero, List.set_cons_succ, bind_S, forL_0, kL_nx, kL_ct, kL_bk, kL_rt, tg_n, tg_t, tg_0, tg_s, wp_0, wp_s, bk_0, bk_s, rd_0, rd_s, sb_a, sb_l, si_a, si_l, hd_0, out_t, out_f, argD, ite_self, List.map_cons, List.map_nil, List.append_nil, List.cons_append, List.nil_append, Bool.and_true, Bool.true_and, Bool.not_true, Bool.not_false, Bool.and_false, Bool.false_and, true_and, and_true, decide_eq_true_eq, Bool.false_eq_true, if_false, if_true, ite_true, ite_false, reduceIte, Bool.not_eq_true']
    rfl
/-! what is drawn -/
def Fine (xs : Sp) : Prop := Good 0 xs ∧ ∀ t, In xs t → 0 ≤ t ∧ t ≤ 40
theorem Good.snoc {b : Int} {q : Int × Int} (hq : q.1 ≤ q.2) : ∀ {xs : Sp}, Good b xs → b ≤ q.1 → (∀ s ∈ xs, s.2 + 2 ≤ q.1) → Good b (xs ++ [q])
  | [], _, h, _ => ⟨h, hq, trivial⟩
  | s :: r, ⟨h1, h2, h3⟩, h, h4 => ⟨h1, h2, Good.snoc hq h3 (h4 s List.mem_cons_self) fun w hw => h4 w (List.mem_cons_of_mem _ hw)⟩
theorem lp_spans {ns : List Int} {K : ES → Prop} : ∀ (ks : List Int) (p : Nat) (v : Int) (acc : Sp) (f : Int) (a5 a6 a7 : Option D), 0 ≤ v → 0 ≤ f → Fine acc → (∀ s ∈ acc, s.2 + 2 ≤ f) → acc.length + ks.length ≤ 4 →
    (∀ (xs : Sp) (p' : Nat) (v' f' : Int) (a5 a6 a7 : Option D), 0 ≤ v' → Fine xs → xs.length ≤ 4 → K (.nx, [some (stt ns p' v'), some (.int 40), some (.int 4), some (spD .o xs), some (.int f'), a5, a6, a7])) →
    has (evForL (tgName 5) bd__law_spans_0 (ks.map .int) [some (stt ns p v), some (.int 40), some (.int 4), some (spD .o acc), some (.int f), a5, a6, a7]) K
  | [], p, v, acc, f, a5, a6, a7, hv, hf, ha, hs, hl, h => by
    simp only [e_cst, e_nil, e_yes, e_var, e_fv, e_mv, e_cons, e_dfr, e_op, e_tup, e_lst, e_tr, e_notT, e_andT, e_orT, e_andV, e_orV, e_notV, e_opq, e_if, e_call, e_callM, e_chain, e_src, e_rng, e_lc, g_nx, g_retN, g_brk, g_cnt, g_seq, g_drop, g_ret, g_asg, g_if, g_for, g_app, g_set, kk_ok, kS_ok, kQ_nx, kQ_rt, kQ_bk, kQ_ct, has_some, sl_0, sl_s, st_0, st_s, v_add, v_sub, v_neg, v_lt, v_le, v_gt, v_ge, v_eqi, v_nei, v_is, v_isNot, v_len, v_lenT, v_abs, v_int, v_item, v_itemT, v_list, v_max, v_min, v_repr, blD_bl, truD_bl, truD_lst, isF_int, isF_bl, isF_non, isF_tup, isF_str, isF_lf, isF_lk, isF_lo, isF_ll, at_0, at_1, at_2, ix_0, ix_1, ix_2, cap_i, cap_t, noL_i, noL_n, noL_b, noL_t, ck_0, ck_s, lk_0, lk_1, lk_2, lk_3, lk_4, ln_0, ln_1, ln_2, ln_3, ln_4, own_o, own_l, own_f, its_o, its_l, its_f, lend_o, lend_i, lend_b, lend_n, lend_s, lend_t, cap_k, cap_f, lend_l, lend_f, sh_o, sh_l, sh_f, sh_k, Bool.or_true, Bool.true_or, Bool.or_false, Bool.false_or, intD, isLst, lstO, List.set_cons_zero, List.set_cons_succ, bind_S, forL_0, kL_nx, kL_ct, kL_bk, kL_rt, tg_n, tg_t, tg_0, tg_s, wp_0, wp_s, bk_0, bk_s, rd_0, rd_s, sb_a, sb_l, si_a, si_l, hd_0, out_t, out_f, argD, ite_self, List.map_cons, List.map_nil, List.append_nil, List.cons_append, List.nil_append, Bool.and_true, Bool.true_and, Bool.not_true, Bool.not_false, Bool.and_false, Bool.false_and, true_and, and_true, decide_eq_true_eq, Bool.false_eq_true, if_false, if_true, ite_true, ite_false, reduceIte, Bool.not_eq_true']
    exact h acc p v f a5 a6 a7 hv ha (by simpa using hl)
  | k :: r, p, v, acc, f, a5, a6, a7, hv, hf, ha, hs, hl, h => by
    simp only [List.length_cons] at hl
    have ed : gDiv [.int 40, .int 3] = some (.int 13) := by rfl
    obtain ⟨r1, p1, v1, h1, h2, h3, e1⟩ := take_ok ns p v (13 + 1) hv (by omega) (by omega)
    obtain ⟨r2, p2, v2, k1, k2, k3, e2⟩ := take_ok ns p1 v1 (13 + 1) h3 (by omega) (by omega)
    have hl2 : (acc.map pr).length < 1000000 := by rw [List.length_map]; omega
    rw [List.map_cons, forL_s, tg_n, has_some]
    simp only [st_s, st_0]
    unfold bd__law_spans_0
    refine step [some (stt ns p1 v1), some (.int 40), some (.int 4), some (spD .o acc), some (.int f), some (.int k), some (.int (f + r1)), a7] (fun k Q hk => ?_) ?_
    · simp only [e_cst, e_nil, e_yes, e_var, e_fv, e_mv, e_cons, e_dfr, e_op, e_tup, e_lst, e_tr, e_notT, e_andT, e_orT, e_andV, e_orV, e_notV, e_opq, e_if, e_call, e_callM, e_chain, e_src, e_rng, e_lc, g_nx, g_retN, g_brk, g_cnt, g_seq, g_drop, g_ret, g_asg, g_if, g_for, g_app, g_set, kk_ok, kS_ok, kQ_nx, kQ_rt, kQ_bk, kQ_ct, has_some, sl_0, sl_s, st_0, st_s, v_add, v_sub, v_neg, v_lt, v_le, v_gt, v_ge, v_eqi, v_nei, v_is, v_isNot, v_len, v_lenT, v_abs, v_int, v_item, v_itemT, v_list, v_max, v_min, v_repr, blD_bl, truD_bl, truD_lst, isF_int, isF_bl, isF_non, isF_tup, isF_str, isF_lf, isF_lk, isF_lo, isF_ll, at_0, at_1, at_2, ix_0, ix_1, ix_2, cap_i, cap_t, noL_i, noL_n, noL_b, noL_t, ck_0, ck_s, lk_0, lk_1, lk_2, lk_3, lk_4, ln_0, ln_1, ln_2, ln_3, ln_4, own_o, own_l, own_f, its_o, its_l, its_f, lend_o, lend_i, lend_b, lend_n, lend_s, lend_t, cap_k, cap_f, lend_l, lend_f, sh_o, sh_l, sh_f, sh_k, Bool.or_true, Bool.true_or, Bool.or_false, Bool.false_or, intD, isLst, lstO, List.set_cons_zero, List.set_cons_succ, bind_S, forL_0, kL_nx, kL_ct, kL_bk, kL_rt, tg_n, tg_t, tg_0, tg_s, wp_0, wp_s, bk_0, bk_s, rd_0, rd_s, sb_a, sb_l, si_a, si_l, hd_0, out_t, out_f, argD, ite_self, List.map_cons, List.map_nil, List.append_nil, List.cons_append, List.nil_append, Bool.and_true, Bool.true_and, Bool.not_true, Bool.not_false, Bool.and_false, Bool.false_and, true_and, and_true, decide_eq_true_eq, Bool.false_eq_true, if_false, if_true, ite_true, ite_false, reduceIte, Bool.not_eq_true', ed, e1]
      exact hk
    refine step [some (stt ns p2 v2), some (.int 40), some (.int 4), some (spD .o acc), some (.int f), some (.int k), some (.int (f + r1)), some (.int (f + r1 + r2))] (fun k Q hk => ?_) ?_
    · simp only [e_cst, e_nil, e_yes, e_var, e_fv, e_mv, e_cons, e_dfr, e_op, e_tup, e_lst, e_tr, e_notT, e_andT, e_orT, e_andV, e_orV, e_notV, e_opq, e_if, e_call, e_callM, e_chain, e_src, e_rng, e_lc, g_nx, g_retN, g_brk, g_cnt, g_seq, g_drop, g_ret, g_asg, g_if, g_for, g_app, g_set, kk_ok, kS_ok, kQ_nx, kQ_rt, kQ_bk, kQ_ct, has_some, sl_0, sl_s, st_0, st_s, v_add, v_sub, v_neg, v_lt, v_le, v_gt, v_ge, v_eqi, v_nei, v_is, v_isNot, v_len, v_lenT, v_abs, v_int, v_item, v_itemT, v_list, v_max, v_min, v_repr, blD_bl, truD_bl, truD_lst, isF_int, isF_bl, isF_non, isF_tup, isF_str, isF_lf, isF_lk, isF_lo, isF_ll, at_0, at_1, at_2, ix_0, ix_1, ix_2, cap_i, cap_t, noL_i, noL_n, noL_b, noL_t, ck_0, ck_s, lk_0, lk_1, lk_2, lk_3, lk_4, ln_0, ln_1, ln_2, ln_3, ln_4, own_o, own_l, own_f, its_o, its_l, its_f, lend_o, lend_i, lend_b, lend_n, lend_s, lend_t, cap_k, cap_f, lend_l, lend_f, sh_o, sh_l, sh_f, sh_k, Bool.or_true, Bool.true_or, Bool.or_false, Bool.false_or, intD, isLst, lstO, List.set_cons_zero, List.set_cons_succ, bind_S, forL_0, kL_nx, kL_ct, kL_bk, kL_rt, tg_n, tg_t, tg_0, tg_s, wp_0, wp_s, bk_0, bk_s, rd_0, rd_s, sb_a, sb_l, si_a, si_l, hd_0, out_t, out_f, argD, ite_self, List.map_cons, List.map_nil, List.append_nil, List.cons_append, List.nil_append, Bool.and_true, Bool.true_and, Bool.not_true, Bool.not_false, Bool.and_false, Bool.false_and, true_and, and_true, decide_eq_true_eq, Bool.false_eq_true, if_false, if_true, ite_true, ite_false, reduceIte, Bool.not_eq_true', ed, e2]
      exact hk
    by_cases hb : f + r1 ≤ 40
    · have g2 : Fine (acc ++ [(f + r1, min (f + r1 + r2) 40)]) := by
        refine ⟨Good.snoc (by simp only; omega) ha.1 (by simp only; omega) fun s hs' => by have := hs s hs'; simp only; omega, fun t ht => ?_⟩
        rcases In_app.mp ht with z | z
        · exact ha.2 t z
        · rcases In_cons.mp z with z | z
          · have z1 := z.1; have z2 := z.2; simp only at z1 z2; omega
          · exact (In_nil z).elim
      refine step [some (stt ns p2 v2), some (.int 40), some (.int 4), some (spD .o (acc ++ [(f + r1, min (f + r1 + r2) 40)])), some (.int f), some (.int k), some (.int (f + r1)), some (.int (f + r1 + r2))] (fun k Q hk => ?_) ?_
      · simp only [e_cst, e_nil, e_yes, e_var, e_fv, e_mv, e_cons, e_dfr, e_op, e_tup, e_lst, e_tr, e_notT, e_andT, e_orT, e_andV, e_orV, e_notV, e_opq, e_if, e_call, e_callM, e_chain, e_src, e_rng, e_lc, g_nx, g_retN, g_brk, g_cnt, g_seq, g_drop, g_ret, g_asg, g_if, g_for, g_app, g_set, kk_ok, kS_ok, kQ_nx, kQ_rt, kQ_bk, kQ_ct, has_some, sl_0, sl_s, st_0, st_s, v_add, v_sub, v_neg, v_lt, v_le, v_gt, v_ge, v_eqi, v_nei, v_is, v_isNot, v_len, v_lenT, v_abs, v_int, v_item, v_itemT, v_list, v_max, v_min, v_repr, blD_bl, truD_bl, truD_lst, isF_int, isF_bl, isF_non, isF_tup, isF_str, isF_lf, isF_lk, isF_lo, isF_ll, at_0, at_1, at_2, ix_0, ix_1, ix_2, cap_i, cap_t, noL_i, noL_n, noL_b, noL_t, ck_0, ck_s, lk_0, lk_1, lk_2, lk_3, lk_4, ln_0, ln_1, ln_2, ln_3, ln_4, own_o, own_l, own_f, its_o, its_l, its_f, lend_o, lend_i, lend_b, lend_n, lend_s, lend_t, cap_k, cap_f, lend_l, lend_f, sh_o, sh_l, sh_f, sh_k, Bool.or_true, Bool.true_or, Bool.or_false, Bool.false_or, intD, isLst, lstO, List.set_cons_zero, List.set_cons_succ, bind_S, forL_0, kL_nx, kL_ct, kL_bk, kL_rt, tg_n, tg_t, tg_0, tg_s, wp_0, wp_s, bk_0, bk_s, rd_0, rd_s, sb_a, sb_l, si_a, si_l, hd_0, out_t, out_f, argD, ite_self, List.map_cons, List.map_nil, List.append_nil, List.cons_append, List.nil_append, Bool.and_true, Bool.true_and, Bool.not_true, Bool.not_false, Bool.and_false, Bool.false_and, true_and, and_true, decide_eq_true_eq, Bool.false_eq_true, if_false, if_true, ite_true, ite_false, reduceIte, Bool.not_eq_true', hb]
        refine ⟨hl2, ?_⟩
        rw [snoc]
        exact hk
      simp only [e_cst, e_nil, e_yes, e_var, e_fv, e_mv, e_cons, e_dfr, e_op, e_tup, e_lst, e_tr, e_notT, e_andT, e_orT, e_andV, e_orV, e_notV, e_opq, e_if, e_call, e_callM, e_chain, e_src, e_rng, e_lc, g_nx, g_retN, g_brk, g_cnt, g_seq, g_drop, g_ret, g_asg, g_if, g_for, g_app, g_set, kk_ok, kS_ok, kQ_nx, kQ_rt, kQ_bk, kQ_ct, has_some, sl_0, sl_s, st_0, st_s, v_add, v_sub, v_neg, v_lt, v_le, v_gt, v_ge, v_eqi, v_nei, v_is, v_isNot, v_len, v_lenT, v_abs, v_int, v_item, v_itemT, v_list, v_max, v_min, v_repr, blD_bl, truD_bl, truD_lst, isF_int, isF_bl, isF_non, isF_tup, isF_str, isF_lf, isF_lk, isF_lo, isF_ll, at_0, at_1, at_2, ix_0, ix_1, ix_2, cap_i, cap_t, noL_i, noL_n, noL_b, noL_t, ck_0, ck_s, lk_0, lk_1, lk_2, lk_3, lk_4, ln_0, ln_1, ln_2, ln_3, ln_4, own_o, own_l, own_f, its_o, its_l, its_f, lend_o, lend_i, lend_b, lend_n, lend_s, lend_t, cap_k, cap_f, lend_l, lend_f, sh_o, sh_l, sh_f, sh_k, Bool.or_true, Bool.true_or, Bool.or_false, Bool.false_or, intD, isLst, lstO, List.set_cons_zero, List.set_cons_succ, bind_S, forL_0, kL_nx, kL_ct, kL_bk, kL_rt, tg_n, tg_t, tg_0, tg_s, wp_0, wp_s, bk_0, bk_s, rd_0, rd_s, sb_a, sb_l, si_a, si_l, hd_0, out_t, out_f, argD, ite_self, List.map_cons, List.map_nil, List.append_nil, List.cons_append, List.nil_append, Bool.and_true, Bool.true_and, Bool.not_true, Bool.not_false, Bool.and_false, Bool.false_and, true_and, and_true, decide_eq_true_eq, Bool.false_eq_true, if_false, if_true, ite_true, ite_false, reduceIte, Bool.not_eq_true']
      refine lp_spans r p2 v2 _ _ _ _ _ k3 (by omega) g2 (fun s hs' => ?_) (by simp; omega) h
      rcases List.mem_append.mp hs' with z | z
      · have := hs s z; omega
      · simp at z; rw [z]; simp only; omega
    · refine step [some (stt ns p2 v2), some (.int 40), some (.int 4), some (spD .o acc), some (.int f), some (.int k), some (.int (f + r1)), some (.int (f + r1 + r2))] (fun k Q hk => ?_) ?_
      · simp only [e_cst, e_nil, e_yes, e_var, e_fv, e_mv, e_cons, e_dfr, e_op, e_tup, e_lst, e_tr, e_notT, e_andT, e_orT, e_andV, e_orV, e_notV, e_opq, e_if, e_call, e_callM, e_chain, e_src, e_rng, e_lc, g_nx, g_retN, g_brk, g_cnt, g_seq, g_drop, g_ret, g_asg, g_if, g_for, g_app, g_set, kk_ok, kS_ok, kQ_nx, kQ_rt, kQ_bk, kQ_ct, has_some, sl_0, sl_s, st_0, st_s, v_add, v_sub, v_neg, v_lt, v_le, v_gt, v_ge, v_eqi, v_nei, v_is, v_isNot, v_len, v_lenT, v_abs, v_int, v_item, v_itemT, v_list, v_max, v_min, v_repr, blD_bl, truD_bl, truD_lst, isF_int, isF_bl, isF_non, isF_tup, isF_str, isF_lf, isF_lk, isF_lo, isF_ll, at_0, at_1, at_2, ix_0, ix_1, ix_2, cap_i, cap_t, noL_i, noL_n, noL_b, noL_t, ck_0, ck_s, lk_0, lk_1, lk_2, lk_3, lk_4, ln_0, ln_1, ln_2, ln_3, ln_4, own_o, own_l, own_f, its_o, its_l, its_f, lend_o, lend_i, lend_b, lend_n, lend_s, lend_t, cap_k, cap_f, lend_l, lend_f, sh_o, sh_l, sh_f, sh_k, Bool.or_true, Bool.true_or, Bool.or_false, Bool.false_or, intD, isLst, lstO, List.set_cons_zero, List.set_cons_succ, bind_S, forL_0, kL_nx, kL_ct, kL_bk, kL_rt, tg_n, tg_t, tg_0, tg_s, wp_0, wp_s, bk_0, bk_s, rd_0, rd_s, sb_a, sb_l, si_a, si_l, hd_0, out_t, out_f, argD, ite_self, List.map_cons, List.map_nil, List.append_nil, List.cons_append, List.nil_append, Bool.and_true, Bool.true_and, Bool.not_true, Bool.not_false, Bool.and_false, Bool.false_and, true_and, and_true, decide_eq_true_eq, Bool.false_eq_true, if_false, if_true, ite_true, ite_false, reduceIte, Bool.not_eq_true', hb]
        exact hk
      simp only [e_cst, e_nil, e_yes, e_var, e_fv, e_mv, e_cons, e_dfr, e_op, e_tup, e_lst, e_tr, e_notT, e_andT, e_orT, e_andV, e_orV, e_notV, e_opq, e_if, e_call, e_callM, e_chain, e_src, e_rng, e_lc, g_nx, g_retN, g_brk, g_cnt, g_seq, g_drop, g_ret, g_asg, g_if, g_for, g_app, g_set, kk_ok, kS_ok, kQ_nx, kQ_rt, kQ_bk, kQ_ct, has_some, sl_0, sl_s, st_0, st_s, v_add, v_sub, v_neg, v_lt, v_le, v_gt, v_ge, v_eqi, v_nei, v_is, v_isNot, v_len, v_lenT, v_abs, v_int, v_item, v_itemT, v_list, v_max, v_min, v_repr, blD_bl, truD_bl, truD_lst, isF_int, isF_bl, isF_non, isF_tup, isF_str, isF_lf, isF_lk, isF_lo, isF_ll, at_0, at_1, at_2, ix_0, ix_1, ix_2, cap_i, cap_t, noL_i, noL_n, noL_b, noL_t, ck_0, ck_s, lk_0, lk_1, lk_2, lk_3, lk_4, ln_0, ln_1, ln_2, ln_3, ln_4, own_o, own_l, own_f, its_o, its_l, its_f, lend_o, lend_i, lend_b, lend_n, lend_s, lend_t, cap_k, cap_f, lend_l, lend_f, sh_o, sh_l, sh_f, sh_k, Bool.or_true, Bool.true_or, Bool.or_false, Bool.false_or, intD, isLst, lstO, List.set_cons_zero, List.set_cons_succ, bind_S, forL_0, kL_nx, kL_ct, kL_bk, kL_rt, tg_n, tg_t, tg_0, tg_s, wp_0, wp_s, bk_0, bk_s, rd_0, rd_s, sb_a, sb_l, si_a, si_l, hd_0, out_t, out_f, argD, ite_self, List.map_cons, List.map_nil, List.append_nil, List.cons_append, List.nil_append, Bool.and_true, Bool.true_and, Bool.not_true, Bool.not_false, Bool.and_false, Bool.false_and, true_and, and_true, decide_eq_true_eq, Bool.false_eq_true, if_false, if_true, ite_true, ite_false, reduceIte, Bool.not_eq_true']
      exact lp_spans r p2 v2 _ _ _ _ _ k3 (by omega) ha (fun s hs' => by have := hs s hs'; omega) (by omega) h
theorem ok_spans (ns : List Int) (p : Nat) (v : Int) (hv : 0 ≤ v) : ∃ (xs : Sp) (p' : Nat) (v' : Int), 0 ≤ v' ∧ Fine xs ∧ xs.length ≤ 4 ∧ F__law_spans [stt ns p v, .int 40, .int 4] = some (.ok (spD .o xs), [some (stt ns p' v'), none, none]) := by
  obtain ⟨r1, p1, v1, h1, h2, h3, e1⟩ := take_ok ns p v (4 + 1) hv (by omega) (by omega)
  have key : ∃ r : ER, (∃ (xs : Sp) (p' : Nat) (v' : Int), 0 ≤ v' ∧ Fine xs ∧ xs.length ≤ 4 ∧ r = (.ok (spD .o xs), [some (stt ns p' v'), none, none])) ∧ F__law_spans [stt ns p v, .int 40, .int 4] = some r := by
    have hgo : Go ev__law_spans [some (stt ns p v), some (.int 40), some (.int 4), none, none, none, none, none] fun o δ => ∃ (xs : Sp) (p' : Nat) (v' : Int), 0 ≤ v' ∧ Fine xs ∧ xs.length ≤ 4 ∧ o = .rt (spD .o xs) ∧ hd0 δ = some (stt ns p' v') := by
      unfold ev__law_spans
      refine step [some (stt ns p v), some (.int 40), some (.int 4), some (spD .o []), none, none, none, none] (fun k Q hk => ?_) ?_
      · simp only [e_cst, e_nil, e_yes, e_var, e_fv, e_mv, e_cons, e_dfr, e_op, e_tup, e_lst, e_tr, e_notT, e_andT, e_orT, e_andV, e_orV, e_notV, e_opq, e_if, e_call, e_callM, e_chain, e_src, e_rng, e_lc, g_nx, g_retN, g_brk, g_cnt, g_seq, g_drop, g_ret, g_asg, g_if, g_for, g_app, g_set, kk_ok, kS_ok, kQ_nx, kQ_rt, kQ_bk, kQ_ct, has_some, sl_0, sl_s, st_0, st_s, v_add, v_sub, v_neg, v_lt, v_le, v_gt, v_ge, v_eqi, v_nei, v_is, v_isNot, v_len, v_lenT, v_abs, v_int, v_item, v_itemT, v_list, v_max, v_min, v_repr, blD_bl, truD_bl, truD_lst, isF_int, isF_bl, isF_non, isF_tup, isF_str, isF_lf, isF_lk, isF_lo, isF_ll, at_0, at_1, at_2, ix_0, ix_1, ix_2, cap_i, cap_t, noL_i, noL_n, noL_b, noL_t, ck_0, ck_s, lk_0, lk_1, lk_2, lk_3, lk_4, ln_0, ln_1, ln_2, ln_3, ln_4, own_o, own_l, own_f, its_o, its_l, its_f, lend_o, lend_i, lend_b, lend_n, lend_s, lend_t, cap_k, cap_f, lend_l, lend_f, sh_o, sh_l, sh_f, sh_k, Bool.or_true, Bool.true_or, Bool.or_false, Bool.false_or, intD, isLst, lstO, List.set_cons_zero, List.set_cons_succ, bind_S, forL_0, kL_nx, kL_ct, kL_bk, kL_rt, tg_n, tg_t, tg_0, tg_s, wp_0, wp_s, bk_0, bk_s, rd_0, rd_s, sb_a, sb_l, si_a, si_l, hd_0, out_t, out_f, argD, ite_self, List.map_cons, List.map_nil, List.append_nil, List.cons_append, List.nil_append, Bool.and_true, Bool.true_and, Bool.not_true, Bool.not_false, Bool.and_false, Bool.false_and, true_and, and_true, decide_eq_true_eq, Bool.false_eq_true, if_false, if_true, ite_true, ite_false, reduceIte, Bool.not_eq_true']; exact hk
      refine step [some (stt ns p v), some (.int 40), some (.int 4), some (spD .o []), some (.int 0), none, none, none] (fun k Q hk => ?_) ?_
      · simp only [e_cst, e_nil, e_yes, e_var, e_fv, e_mv, e_cons, e_dfr, e_op, e_tup, e_lst, e_tr, e_notT, e_andT, e_orT, e_andV, e_orV, e_notV, e_opq, e_if, e_call, e_callM, e_chain, e_src, e_rng, e_lc, g_nx, g_retN, g_brk, g_cnt, g_seq, g_drop, g_ret, g_asg, g_if, g_for, g_app, g_set, kk_ok, kS_ok, kQ_nx, kQ_rt, kQ_bk, kQ_ct, has_some, sl_0, sl_s, st_0, st_s, v_add, v_sub, v_neg, v_lt, v_le, v_gt, v_ge, v_eqi, v_nei, v_is, v_isNot, v_len, v_lenT, v_abs, v_int, v_item, v_itemT, v_list, v_max, v_min, v_repr, blD_bl, truD_bl, truD_lst, isF_int, isF_bl, isF_non, isF_tup, isF_str, isF_lf, isF_lk, isF_lo, isF_ll, at_0, at_1, at_2, ix_0, ix_1, ix_2, cap_i, cap_t, noL_i, noL_n, noL_b, noL_t, ck_0, ck_s, lk_0, lk_1, lk_2, lk_3, lk_4, ln_0, ln_1, ln_2, ln_3, ln_4, own_o, own_l, own_f, its_o, its_l, its_f, lend_o, lend_i, lend_b, lend_n, lend_s, lend_t, cap_k, cap_f, lend_l, lend_f, sh_o, sh_l, sh_f, sh_k, Bool.or_true, Bool.true_or, Bool.or_false, Bool.false_or, intD, isLst, lstO, List.set_cons_zero, List.set_cons_succ, bind_S, forL_0, kL_nx, kL_ct, kL_bk, kL_rt, tg_n, tg_t, tg_0, tg_s, wp_0, wp_s, bk_0, bk_s, rd_0, rd_s, sb_a, sb_l, si_a, si_l, hd_0, out_t, out_f, argD, ite_self, List.map_cons, List.map_nil, List.append_nil, List.cons_append, List.nil_append, Bool.and_true, Bool.true_and, Bool.not_true, Bool.not_false, Bool.and_false, Bool.false_and, true_and, and_true, decide_eq_true_eq, Bool.false_eq_true, if_false, if_true, ite_true, ite_false, reduceIte, Bool.not_eq_true']; exact hk
      simp only [e_cst, e_nil, e_yes, e_var, e_fv, e_mv, e_cons, e_dfr, e_op, e_tup, e_lst, e_tr, e_notT, e_andT, e_orT, e_andV, e_orV, e_notV, e_opq, e_if, e_call, e_callM, e_chain, e_src, e_rng, e_lc, g_nx, g_retN, g_brk, g_cnt, g_seq, g_drop, g_ret, g_asg, g_if, g_for, g_app, g_set, kk_ok, kS_ok, kQ_nx, kQ_rt, kQ_bk, kQ_ct, has_some, sl_0, sl_s, st_0, st_s, v_add, v_sub, v_neg, v_lt, v_le, v_gt, v_ge, v_eqi, v_nei, v_is, v_isNot, v_len, v_lenT, v_abs, v_int, v_item, v_itemT, v_list, v_max, v_min, v_repr, blD_bl, truD_bl, truD_lst, isF_int, isF_bl, isF_non, isF_tup, isF_str, isF_lf, isF_lk, isF_lo, isF_ll, at_0, at_1, at_2, ix_0, ix_1, ix_2, cap_i, cap_t, noL_i, noL_n, noL_b, noL_t, ck_0, ck_s, lk_0, lk_1, lk_2, lk_3, lk_4, ln_0, ln_1, ln_2, ln_3, ln_4, own_o, own_l, own_f, its_o, its_l, its_f, lend_o, lend_i, lend_b, lend_n, lend_s, lend_t, cap_k, cap_f, lend_l, lend_f, sh_o, sh_l, sh_f, sh_k, Bool.or_true, Bool.true_or, Bool.or_false, Bool.false_or, intD, isLst, lstO, List.set_cons_zero, List.set_cons_succ, bind_S, forL_0, kL_nx, kL_ct, kL_bk, kL_rt, tg_n, tg_t, tg_0, tg_s, wp_0, wp_s, bk_0, bk_s, rd_0, rd_s, sb_a, sb_l, si_a, si_l, hd_0, out_t, out_f, argD, ite_self, List.map_cons, List.map_nil, List.append_nil, List.cons_append, List.nil_append, Bool.and_true, Bool.true_and, Bool.not_true, Bool.not_false, Bool.and_false, Bool.false_and, true_and, and_true, decide_eq_true_eq, Bool.false_eq_true, if_false, if_true, ite_true, ite_false, reduceIte, Bool.not_eq_true', e1, rng1_i r1 ⟨by omega, by omega⟩]
      refine lp_spans (ns := ns) (mins 0 r1.toNat) p1 v1 [] 0 _ _ _ h3 (by omega) ⟨trivial, fun t h => (In_nil h).elim⟩ (fun s h => by simp at h) (by rw [mins_len]; simp; omega) fun xs p' v' f' a5 a6 a7 q1 q2 q3 => ?_
      simp only [e_cst, e_nil, e_yes, e_var, e_fv, e_mv, e_cons, e_dfr, e_op, e_tup, e_lst, e_tr, e_notT, e_andT, e_orT, e_andV, e_orV, e_notV, e_opq, e_if, e_call, e_callM, e_chain, e_src, e_rng, e_lc, g_nx, g_retN, g_brk, g_cnt, g_seq, g_drop, g_ret, g_asg, g_if, g_for, g_app, g_set, kk_ok, kS_ok, kQ_nx, kQ_rt, kQ_bk, kQ_ct, has_some, sl_0, sl_s, st_0, st_s, v_add, v_sub, v_neg, v_lt, v_le, v_gt, v_ge, v_eqi, v_nei, v_is, v_isNot, v_len, v_lenT, v_abs, v_int, v_item, v_itemT, v_list, v_max, v_min, v_repr, blD_bl, truD_bl, truD_lst, isF_int, isF_bl, isF_non, isF_tup, isF_str, isF_lf, isF_lk, isF_lo, isF_ll, at_0, at_1, at_2, ix_0, ix_1, ix_2, cap_i, cap_t, noL_i, noL_n, noL_b, noL_t, ck_0, ck_s, lk_0, lk_1, lk_2, lk_3, lk_4, ln_0, ln_1, ln_2, ln_3, ln_4, own_o, own_l, own_f, its_o, its_l, its_f, lend_o, lend_i, lend_b, lend_n, lend_s, lend_t, cap_k, cap_f, lend_l, lend_f, sh_o, sh_l, sh_f, sh_k, Bool.or_true, Bool.true_or, Bool.or_false, Bool.false_or, intD, isLst, lstO, List.set_cons_zero, List.set_cons_succ, bind_S, forL_0, kL_nx, kL_ct, kL_bk, kL_rt, tg_n, tg_t, tg_0, tg_s, wp_0, wp_s, bk_0, bk_s, rd_0, rd_s, sb_a, sb_l, si_a, si_l, hd_0, out_t, out_f, argD, ite_self, List.map_cons, List.map_nil, List.append_nil, List.cons_append, List.nil_append, Bool.and_true, Bool.true_and, Bool.not_true, Bool.not_false, Bool.and_false, Bool.false_and, true_and, and_true, decide_eq_true_eq, Bool.false_eq_true, if_false, if_true, ite_true, ite_false, reduceIte, Bool.not_eq_true']
      exact ⟨rfl, xs, p', v', q1, q2, q3, rfl, rfl⟩
    obtain ⟨o, δ, e, xs, p', v', q1, q2, q3, rfl, q5⟩ := hgo
    refine ⟨_, ⟨xs, p', v', q1, q2, q3, rfl⟩, ?_⟩
    unfold F__law_spans
    refine fn_go rfl ⟨_, _, e, ?_⟩
    simp only [out_t, q5]
    rfl
  obtain ⟨r, ⟨xs, p', v', q1, q2, q3, rfl⟩, e⟩ := key
  exact ⟨xs, p', v', q1, q2, q3, e⟩
end K11
namespace K11
open PySem PD
@[reducible] def L (ns : List Int) (s1 s2 s3 s4 s5 s6 s7 s8 s9 s10 s11 s12 s13 s14 s15 : Option D) : DS := [some (scr ns), s1, s2, s3, s4, s5, s6, s7, s8, s9, s10, s11, s12, s13, s14, s15, none, none]
theorem Good.sub {b : Int} : ∀ {xs ys : Sp}, ys.Sublist xs → Good b xs → Good b ys
  | _, _, .slnil, _ => trivial
  | _, _, .cons q s, ⟨h1, h2, h3⟩ => (Good.sub s h3).le (by omega)
  | _, _, .cons₂ q s, ⟨h1, h2, h3⟩ => ⟨h1, h2, Good.sub s h3⟩
theorem Fine.sub {xs ys : Sp} (s : ys.Sublist xs) (f : Fine xs) : Fine ys := ⟨f.1.sub s, fun t ⟨q, h, o⟩ => f.2 t ⟨q, s.subset h, o⟩⟩
/-- the spans that are kept as drawn -/
theorem lp_sub {ns : List Int} {a2 a3 a4 a5 a6 a7 a8 a9 a10 a11 a12 a13 a14 a15 : Option D} {K : List D × DS → Prop} : ∀ (xs acc : Sp) (p : Nat) (v : Int), 0 ≤ v → acc.length + xs.length ≤ 100 →
    (∀ (zs : Sp) (p' : Nat) (v' : Int), zs.Sublist xs → 0 ≤ v' → K ((acc ++ zs).map pr, L ns (some (stt ns p' v')) a2 a3 a4 a5 a6 a7 a8 a9 a10 a11 a12 a13 a14 a15)) →
    has (evCmp (tgName 17) ct_law_0 ce_law_1 [17] (xs.map pr) (acc.map pr) (L ns (some (stt ns p v)) a2 a3 a4 a5 a6 a7 a8 a9 a10 a11 a12 a13 a14 a15)) K
  | [], acc, p, v, hv, hl, h => by
    have := h [] p v (List.Sublist.refl _) hv
    rw [List.append_nil] at this
    exact ⟨_, rfl, this⟩
  | q :: r, acc, p, v, hv, hl, h => by
    simp only [List.length_cons] at hl
    obtain ⟨r1, p1, v1, h1, h2, h3, e1⟩ := take_ok ns p v 2 hv (by omega) (by omega)
    have t1 : GE ct_law_0 (st (L ns (some (stt ns p v)) a2 a3 a4 a5 a6 a7 a8 a9 a10 a11 a12 a13 a14 a15) 17 (some (pr q))) fun b δ => b = .ok (decide (r1 = 0)) ∧ δ = st (L ns (some (stt ns p1 v1)) a2 a3 a4 a5 a6 a7 a8 a9 a10 a11 a12 a13 a14 a15) 17 (some (pr q)) := by
      simp only [ct_law_0, L, e_cst, e_nil, e_yes, e_var, e_fv, e_mv, e_cons, e_dfr, e_op, e_tup, e_lst, e_tr, e_notT, e_andT, e_orT, e_andV, e_orV, e_notV, e_opq, e_if, e_call, e_callM, e_chain, e_src, e_rng, e_lc, g_nx, g_retN, g_brk, g_cnt, g_seq, g_drop, g_ret, g_asg, g_if, g_for, g_app, g_set, kk_ok, kS_ok, kQ_nx, kQ_rt, kQ_bk, kQ_ct, has_some, sl_0, sl_s, st_0, st_s, v_add, v_sub, v_neg, v_lt, v_le, v_gt, v_ge, v_eqi, v_nei, v_is, v_isNot, v_len, v_lenT, v_abs, v_int, v_item, v_itemT, v_list, v_max, v_min, v_repr, blD_bl, truD_bl, truD_lst, isF_int, isF_bl, isF_non, isF_tup, isF_str, isF_lf, isF_lk, isF_lo, isF_ll, at_0, at_1, at_2, ix_0, ix_1, ix_2, cap_i, cap_t, noL_i, noL_n, noL_b, noL_t, ck_0, ck_s, lk_0, lk_1, lk_2, lk_3, lk_4, ln_0, ln_1, ln_2, ln_3, ln_4, own_o, own_l, own_f, its_o, its_l, its_f, lend_o, lend_i, lend_b, lend_n, lend_s, lend_t, cap_k, cap_f, lend_l, lend_f, sh_o, sh_l, sh_f, sh_k, Bool.or_true, Bool.true_or, Bool.or_false, Bool.false_or, intD, isLst, lstO, List.set_cons_zero, List.set_cons_succ, bind_S, forL_0, kL_nx, kL_ct, kL_bk, kL_rt, tg_n, tg_t, tg_0, tg_s, wp_0, wp_s, bk_0, bk_s, rd_0, rd_s, sb_a, sb_l, si_a, si_l, hd_0, out_t, out_f, argD, ite_self, List.map_cons, List.map_nil, List.append_nil, List.cons_append, List.nil_append, Bool.and_true, Bool.true_and, Bool.not_true, Bool.not_false, Bool.and_false, Bool.false_and, true_and, and_true, decide_eq_true_eq, Bool.false_eq_true, if_false, if_true, ite_true, ite_false, reduceIte, Bool.not_eq_true', e1]
    obtain ⟨b, δ, e2, rfl, rfl⟩ := t1
    have et : tgName 17 (pr q) (L ns (some (stt ns p v)) a2 a3 a4 a5 a6 a7 a8 a9 a10 a11 a12 a13 a14 a15) = some (st (L ns (some (stt ns p v)) a2 a3 a4 a5 a6 a7 a8 a9 a10 a11 a12 a13 a14 a15) 17 (some (pr q))) := tg_n
    have ew : wipeD [17] (st (L ns (some (stt ns p1 v1)) a2 a3 a4 a5 a6 a7 a8 a9 a10 a11 a12 a13 a14 a15) 17 (some (pr q))) = L ns (some (stt ns p1 v1)) a2 a3 a4 a5 a6 a7 a8 a9 a10 a11 a12 a13 a14 a15 := rfl
    have key : ∀ x, has x K → x = evCmp (tgName 17) ct_law_0 ce_law_1 [17] ((q :: r).map pr) (acc.map pr) (L ns (some (stt ns p v)) a2 a3 a4 a5 a6 a7 a8 a9 a10 a11 a12 a13 a14 a15) → has (evCmp (tgName 17) ct_law_0 ce_law_1 [17] ((q :: r).map pr) (acc.map pr) (L ns (some (stt ns p v)) a2 a3 a4 a5 a6 a7 a8 a9 a10 a11 a12 a13 a14 a15)) K := fun x hx e => e ▸ hx
    by_cases hz : r1 = 0
    · have e3 : ce_law_1 (st (L ns (some (stt ns p1 v1)) a2 a3 a4 a5 a6 a7 a8 a9 a10 a11 a12 a13 a14 a15) 17 (some (pr q))) = some (.ok (pr q), st (L ns (some (stt ns p1 v1)) a2 a3 a4 a5 a6 a7 a8 a9 a10 a11 a12 a13 a14 a15) 17 (some (pr q))) := rfl
      refine key (evCmp (tgName 17) ct_law_0 ce_law_1 [17] (r.map pr) ((acc ++ [q]).map pr) (L ns (some (stt ns p1 v1)) a2 a3 a4 a5 a6 a7 a8 a9 a10 a11 a12 a13 a14 a15)) ?_ ?_
      · refine lp_sub r (acc ++ [q]) p1 v1 h3 (by simp; omega) fun zs p' v' s hv' => ?_
        have := h (q :: zs) p' v' (s.cons₂ q) hv'
        simpa using this
      · rw [List.map_cons, evCmp, et]
        simp only [e2, hz, decide_true, if_true, e3]
        rw [if_pos (by simp; omega), ew]
        simp [cap_pr]
    · refine key (evCmp (tgName 17) ct_law_0 ce_law_1 [17] (r.map pr) (acc.map pr) (L ns (some (stt ns p1 v1)) a2 a3 a4 a5 a6 a7 a8 a9 a10 a11 a12 a13 a14 a15)) ?_ ?_
      · exact lp_sub r acc p1 v1 h3 (by omega) fun zs p' v' s hv' => h zs p' v' (s.cons q) hv'
      · rw [List.map_cons, evCmp, et]
        simp only [e2, hz, decide_false, Bool.false_eq_true, if_false]
        rw [ew]
/-- minutes drawn -/
theorem lp_drawn {ns : List Int} {a2 a3 a4 a5 a7 a8 a9 a10 a11 a12 a13 a14 a15 : Option D} {K : List D × DS → Prop} : ∀ (ks acc : List Int) (p : Nat) (v : Int), 0 ≤ v → acc.length + ks.length ≤ 100 → (∀ t ∈ acc, 0 ≤ t ∧ t < 40) →
    (∀ (zs : List Int) (p' : Nat) (v' : Int), zs.length ≤ 100 → (∀ t ∈ zs, 0 ≤ t ∧ t < 40) → 0 ≤ v' → K (zs.map .int, L ns (some (stt ns p' v')) a2 a3 a4 a5 none a7 a8 a9 a10 a11 a12 a13 a14 a15)) →
    has (evCmp (tgName 6) ct_law_15 ce_law_16 [6] (ks.map .int) (acc.map .int) (L ns (some (stt ns p v)) a2 a3 a4 a5 none a7 a8 a9 a10 a11 a12 a13 a14 a15)) K
  | [], acc, p, v, hv, hl, ha, h => ⟨_, rfl, h acc p v (by simpa using hl) ha hv⟩
  | k :: r, acc, p, v, hv, hl, ha, h => by
    simp only [List.length_cons] at hl
    obtain ⟨r1, p1, v1, h1, h2, h3, e1⟩ := take_ok ns p v 40 hv (by omega) (by omega)
    have t1 : GE ce_law_16 (st (L ns (some (stt ns p v)) a2 a3 a4 a5 none a7 a8 a9 a10 a11 a12 a13 a14 a15) 6 (some (.int k))) fun b δ => b = .ok (.int r1) ∧ δ = st (L ns (some (stt ns p1 v1)) a2 a3 a4 a5 none a7 a8 a9 a10 a11 a12 a13 a14 a15) 6 (some (.int k)) := by
      simp only [ce_law_16, L, e_cst, e_nil, e_yes, e_var, e_fv, e_mv, e_cons, e_dfr, e_op, e_tup, e_lst, e_tr, e_notT, e_andT, e_orT, e_andV, e_orV, e_notV, e_opq, e_if, e_call, e_callM, e_chain, e_src, e_rng, e_lc, g_nx, g_retN, g_brk, g_cnt, g_seq, g_drop, g_ret, g_asg, g_if, g_for, g_app, g_set, kk_ok, kS_ok, kQ_nx, kQ_rt, kQ_bk, kQ_ct, has_some, sl_0, sl_s, st_0, st_s, v_add, v_sub, v_neg, v_lt, v_le, v_gt, v_ge, v_eqi, v_nei, v_is, v_isNot, v_len, v_lenT, v_abs, v_int, v_item, v_itemT, v_list, v_max, v_min, v_repr, blD_bl, truD_bl, truD_lst, isF_int, isF_bl, isF_non, isF_tup, isF_str, isF_lf, isF_lk, isF_lo, isF_ll, at_0, at_1, at_2, ix_0, ix_1, ix_2, cap_i, cap_t, noL_i, noL_n, noL_b, noL_t, ck_0, ck_s, lk_0, lk_1, lk_2, lk_3, lk_4, ln_0, ln_1, ln_2, ln_3, ln_4, own_o, own_l, own_f, its_o, its_l, its_f, lend_o, lend_i, lend_b, lend_n, lend_s, lend_t, cap_k, cap_f, lend_l, lend_f, sh_o, sh_l, sh_f, sh_k, Bool.or_true, Bool.true_or, Bool.or_false, Bool.false_or, intD, isLst, lstO, List.set_cons_zero, List.set_cons_succ, bind_S, forL_0, kL_nx, kL_ct, kL_bk, kL_rt, tg_n, tg_t, tg_0, tg_s, wp_0, wp_s, bk_0, bk_s, rd_0, rd_s, sb_a, sb_l, si_a, si_l, hd_0, out_t, out_f, argD, ite_self, List.map_cons, List.map_nil, List.append_nil, List.cons_append, List.nil_append, Bool.and_true, Bool.true_and, Bool.not_true, Bool.not_false, Bool.and_false, Bool.false_and, true_and, and_true, decide_eq_true_eq, Bool.false_eq_true, if_false, if_true, ite_true, ite_false, reduceIte, Bool.not_eq_true', e1]
    obtain ⟨b, δ, e2, rfl, rfl⟩ := t1
    have et : tgName 6 (.int k) (L ns (some (stt ns p v)) a2 a3 a4 a5 none a7 a8 a9 a10 a11 a12 a13 a14 a15) = some (st (L ns (some (stt ns p v)) a2 a3 a4 a5 none a7 a8 a9 a10 a11 a12 a13 a14 a15) 6 (some (.int k))) := tg_n
    have ew : wipeD [6] (st (L ns (some (stt ns p1 v1)) a2 a3 a4 a5 none a7 a8 a9 a10 a11 a12 a13 a14 a15) 6 (some (.int k))) = L ns (some (stt ns p1 v1)) a2 a3 a4 a5 none a7 a8 a9 a10 a11 a12 a13 a14 a15 := rfl
    have ec : ∀ δ, ct_law_15 δ = some (.ok true, δ) := fun _ => rfl
    have ih := lp_drawn (K := K) r (acc ++ [r1]) p1 v1 h3 (by simp; omega) (fun t ht => by
      rcases List.mem_append.mp ht with z | z
      · exact ha t z
      · simp at z; omega) h
    rw [List.map_cons, evCmp, et]
    simp only [ec, if_true, e2]
    rw [if_pos (by simp; omega), ew]
    simpa [cap_i'] using ih
theorem lp_rows {ns : List Int} {a2 a3 a4 a5 a6 a7 a8 a9 a10 a11 a12 a13 a14 a15 : Option D} {K : List D × DS → Prop} : ∀ (ks : List Int) (acc : Sp) (p : Nat) (v : Int), 0 ≤ v → acc.length + ks.length ≤ 100 → (∀ t ∈ ks, 0 ≤ t ∧ t < 40) → (∀ q ∈ acc, 0 ≤ q.1 ∧ q.1 ≤ q.2 ∧ q.2 < 50) →
    (∀ (zs : Sp) (p' : Nat) (v' : Int), zs.length ≤ 100 → (∀ q ∈ zs, 0 ≤ q.1 ∧ q.1 ≤ q.2 ∧ q.2 < 50) → 0 ≤ v' → K (zs.map pr, L ns (some (stt ns p' v')) a2 a3 a4 a5 a6 a7 a8 a9 a10 a11 a12 a13 a14 a15)) →
    has (evCmp (tgName 16) ct_law_17 ce_law_18 [16] (ks.map .int) (acc.map pr) (L ns (some (stt ns p v)) a2 a3 a4 a5 a6 a7 a8 a9 a10 a11 a12 a13 a14 a15)) K
  | [], acc, p, v, hv, hl, hk, ha, h => ⟨_, rfl, h acc p v (by simpa using hl) ha hv⟩
  | k :: r, acc, p, v, hv, hl, hk, ha, h => by
    simp only [List.length_cons] at hl
    obtain ⟨r1, p1, v1, h1, h2, h3, e1⟩ := take_ok ns p v 6 hv (by omega) (by omega)
    have hk0 := hk k List.mem_cons_self
    have t1 : GE ce_law_18 (st (L ns (some (stt ns p v)) a2 a3 a4 a5 a6 a7 a8 a9 a10 a11 a12 a13 a14 a15) 16 (some (.int k))) fun b δ => b = .ok (pr (k, k + r1)) ∧ δ = st (L ns (some (stt ns p1 v1)) a2 a3 a4 a5 a6 a7 a8 a9 a10 a11 a12 a13 a14 a15) 16 (some (.int k)) := by
      simp only [ce_law_18, L, pr, e_cst, e_nil, e_yes, e_var, e_fv, e_mv, e_cons, e_dfr, e_op, e_tup, e_lst, e_tr, e_notT, e_andT, e_orT, e_andV, e_orV, e_notV, e_opq, e_if, e_call, e_callM, e_chain, e_src, e_rng, e_lc, g_nx, g_retN, g_brk, g_cnt, g_seq, g_drop, g_ret, g_asg, g_if, g_for, g_app, g_set, kk_ok, kS_ok, kQ_nx, kQ_rt, kQ_bk, kQ_ct, has_some, sl_0, sl_s, st_0, st_s, v_add, v_sub, v_neg, v_lt, v_le, v_gt, v_ge, v_eqi, v_nei, v_is, v_isNot, v_len, v_lenT, v_abs, v_int, v_item, v_itemT, v_list, v_max, v_min, v_repr, blD_bl, truD_bl, truD_lst, isF_int, isF_bl, isF_non, isF_tup, isF_str, isF_lf, isF_lk, isF_lo, isF_ll, at_0, at_1, at_2, ix_0, ix_1, ix_2, cap_i, cap_t, noL_i, noL_n, noL_b, noL_t, ck_0, ck_s, lk_0, lk_1, lk_2, lk_3, lk_4, ln_0, ln_1, ln_2, ln_3, ln_4, own_o, own_l, own_f, its_o, its_l, its_f, lend_o, lend_i, lend_b, lend_n, lend_s, lend_t, cap_k, cap_f, lend_l, lend_f, sh_o, sh_l, sh_f, sh_k, Bool.or_true, Bool.true_or, Bool.or_false, Bool.false_or, intD, isLst, lstO, List.set_cons_zero, List.set_cons_succ, bind_S, forL_0, kL_nx, kL_ct, kL_bk, kL_rt, tg_n, tg_t, tg_0, tg_s, wp_0, wp_s, bk_0, bk_s, rd_0, rd_s, sb_a, sb_l, si_a, si_l, hd_0, out_t, out_f, argD, ite_self, List.map_cons, List.map_nil, List.append_nil, List.cons_append, List.nil_append, Bool.and_true, Bool.true_and, Bool.not_true, Bool.not_false, Bool.and_false, Bool.false_and, true_and, and_true, decide_eq_true_eq, Bool.false_eq_true, if_false, if_true, ite_true, ite_false, reduceIte, Bool.not_eq_true', e1]
    obtain ⟨b, δ, e2, rfl, rfl⟩ := t1
    have et : tgName 16 (.int k) (L ns (some (stt ns p v)) a2 a3 a4 a5 a6 a7 a8 a9 a10 a11 a12 a13 a14 a15) = some (st (L ns (some (stt ns p v)) a2 a3 a4 a5 a6 a7 a8 a9 a10 a11 a12 a13 a14 a15) 16 (some (.int k))) := tg_n
    have ew : wipeD [16] (st (L ns (some (stt ns p1 v1)) a2 a3 a4 a5 a6 a7 a8 a9 a10 a11 a12 a13 a14 a15) 16 (some (.int k))) = L ns (some (stt ns p1 v1)) a2 a3 a4 a5 a6 a7 a8 a9 a10 a11 a12 a13 a14 a15 := rfl
    have ec : ∀ δ, ct_law_17 δ = some (.ok true, δ) := fun _ => rfl
    have ih := lp_rows (K := K) r (acc ++ [(k, k + r1)]) p1 v1 h3 (by simp; omega) (fun t ht => hk t (List.mem_cons_of_mem _ ht)) (fun q hq => by
      rcases List.mem_append.mp hq with z | z
      · exact ha q z
      · simp at z; rw [z]; simp only; omega) h
    rw [List.map_cons, evCmp, et]
    simp only [ec, if_true, e2]
    rw [if_pos (by simp; omega), ew]
    simpa [cap_pr] using ih
/-- three minutes tried -/
theorem lp_one {ns : List Int} {xs : Sp} (fx : Fine xs) (hl : xs.length ≤ 4) {a3 a5 a7 a8 a9 a10 a11 a12 a13 a14 a15 : Option D} {K : ES → Prop} : ∀ (ks : List Int) (p : Nat) (v : Int) (a6 : Option D), 0 ≤ v →
    (∀ (p' : Nat) (v' : Int) (a6 : Option D), 0 ≤ v' → K (.nx, L ns (some (stt ns p' v')) (some (spD .o xs)) a3 (some (miD .o (setP xs))) a5 a6 a7 a8 a9 a10 a11 a12 a13 a14 a15)) →
    has (evForL (tgName 6) bd_law_2 (ks.map .int) (L ns (some (stt ns p v)) (some (spD .o xs)) a3 (some (miD .o (setP xs))) a5 a6 a7 a8 a9 a10 a11 a12 a13 a14 a15)) K
  | [], p, v, a6, hv, h => by
    rw [List.map_nil, forL_0]; exact h p v a6 hv
  | k :: r, p, v, a6, hv, h => by
    obtain ⟨r1, p1, v1, h1, h2, h3, e1⟩ := take_ok ns p v 45 hv (by omega) (by omega)
    have e2 := one_right RO.l RO.l fx.1 fx.2 (by omega) r1 ⟨h1, h2⟩
    rw [List.map_cons, forL_s, tg_n, has_some]
    simp only [L, e_cst, e_nil, e_yes, e_var, e_fv, e_mv, e_cons, e_dfr, e_op, e_tup, e_lst, e_tr, e_notT, e_andT, e_orT, e_andV, e_orV, e_notV, e_opq, e_if, e_call, e_callM, e_chain, e_src, e_rng, e_lc, g_nx, g_retN, g_brk, g_cnt, g_seq, g_drop, g_ret, g_asg, g_if, g_for, g_app, g_set, kk_ok, kS_ok, kQ_nx, kQ_rt, kQ_bk, kQ_ct, has_some, sl_0, sl_s, st_0, st_s, v_add, v_sub, v_neg, v_lt, v_le, v_gt, v_ge, v_eqi, v_nei, v_is, v_isNot, v_len, v_lenT, v_abs, v_int, v_item, v_itemT, v_list, v_max, v_min, v_repr, blD_bl, truD_bl, truD_lst, isF_int, isF_bl, isF_non, isF_tup, isF_str, isF_lf, isF_lk, isF_lo, isF_ll, at_0, at_1, at_2, ix_0, ix_1, ix_2, cap_i, cap_t, noL_i, noL_n, noL_b, noL_t, ck_0, ck_s, lk_0, lk_1, lk_2, lk_3, lk_4, ln_0, ln_1, ln_2, ln_3, ln_4, own_o, own_l, own_f, its_o, its_l, its_f, lend_o, lend_i, lend_b, lend_n, lend_s, lend_t, cap_k, cap_f, lend_l, lend_f, sh_o, sh_l, sh_f, sh_k, Bool.or_true, Bool.true_or, Bool.or_false, Bool.false_or, intD, isLst, lstO, List.set_cons_zero, List.set_cons_succ, bind_S, forL_0, kL_nx, kL_ct, kL_bk, kL_rt, tg_n, tg_t, tg_0, tg_s, wp_0, wp_s, bk_0, bk_s, rd_0, rd_s, sb_a, sb_l, si_a, si_l, hd_0, out_t, out_f, argD, ite_self, List.map_cons, List.map_nil, List.append_nil, List.cons_append, List.nil_append, Bool.and_true, Bool.true_and, Bool.not_true, Bool.not_false, Bool.and_false, Bool.false_and, true_and, and_true, decide_eq_true_eq, Bool.false_eq_true, if_false, if_true, ite_true, ite_false, reduceIte, Bool.not_eq_true', bd_law_2, e1, e2]
    exact lp_one fx hl r p1 v1 _ h3 h
theorem sort_good {b : Int} {xs : Sp} (g : Good b xs) : sortP xs = xs := by
  refine List.mergeSort_of_pairwise ?_
  have : ∀ {b : Int} {xs : Sp}, Good b xs → xs.Pairwise (fun p q => leP p q = true) := by
    intro b xs
    induction xs generalizing b with
    | nil => intro _; exact List.Pairwise.nil
    | cons q r ih =>
      rintro ⟨h1, h2, h3⟩
      refine List.pairwise_cons.mpr ⟨fun s hs => ?_, ih h3⟩
      have hin : ∀ {c : Int} {ys : Sp}, Good c ys → s ∈ ys → c ≤ s.1 := by
        intro c ys
        induction ys generalizing c with
        | nil => intro _ h; simp at h
        | cons w ws iw =>
          rintro ⟨k1, k2, k3⟩ h
          rcases List.mem_cons.mp h with rfl | h
          · exact k1
          · have := iw k3 h; omega
      have := hin h3 hs
      unfold leP
      rw [decide_eq_true_eq]
      omega
  exact this g
end K11
namespace K11
open PySem PD
theorem add_i (xs ys : List Int) (h : xs.length + ys.length ≤ 1000) : gAdd [miD .o xs, miD .o ys] = some (miD .o (xs ++ ys)) := by
  show (if (shal .o && shal .o && Fl.o != .k && Fl.o != .k && decide ((xs.map D.int).length + (ys.map D.int).length ≤ sizeLine)) = true then some (D.lst .o (xs.map D.int ++ ys.map D.int)) else none) = _
  rw [if_pos, show miD .o (xs ++ ys) = D.lst .o (xs.map .int ++ ys.map .int) from by simp [miD]]
  have : decide ((xs.map D.int).length + (ys.map D.int).length ≤ sizeLine) = true := by
    rw [decide_eq_true_eq, List.length_map, List.length_map, sizeLine_eq]; omega
  rw [this]; rfl
theorem set_len (xs : Sp) : (setP xs).length ≤ 190 := by
  have := List.length_filter_le (fun t => inP xs t) (mins (-60) 190)
  rw [mins_len] at this; exact this
theorem law_ok (ns : List Int) (hl : ns.length ≤ 63) : LawOk F_law ns := by
  unfold LawOk
  refine ⟨[none], ?_⟩
  unfold F_law
  refine fn_go rfl ?_
  show Go ev_law (L ns none none none none none none none none none none none none none none none) _
  unfold ev_law
  refine step (L ns (some (stt ns (0 : Nat) 0)) none none none none none none none none none none none none none none) (fun k Q hk => ?_) ?_
  · simp only [L, e_cst, e_nil, e_yes, e_var, e_fv, e_mv, e_cons, e_dfr, e_op, e_tup, e_lst, e_tr, e_notT, e_andT, e_orT, e_andV, e_orV, e_notV, e_opq, e_if, e_call, e_callM, e_chain, e_src, e_rng, e_lc, g_nx, g_retN, g_brk, g_cnt, g_seq, g_drop, g_ret, g_asg, g_if, g_for, g_app, g_set, kk_ok, kS_ok, kQ_nx, kQ_rt, kQ_bk, kQ_ct, has_some, sl_0, sl_s, st_0, st_s, v_add, v_sub, v_neg, v_lt, v_le, v_gt, v_ge, v_eqi, v_nei, v_is, v_isNot, v_len, v_lenT, v_abs, v_int, v_item, v_itemT, v_list, v_max, v_min, v_repr, blD_bl, truD_bl, truD_lst, isF_int, isF_bl, isF_non, isF_tup, isF_str, isF_lf, isF_lk, isF_lo, isF_ll, at_0, at_1, at_2, ix_0, ix_1, ix_2, cap_i, cap_t, noL_i, noL_n, noL_b, noL_t, ck_0, ck_s, lk_0, lk_1, lk_2, lk_3, lk_4, ln_0, ln_1, ln_2, ln_3, ln_4, own_o, own_l, own_f, its_o, its_l, its_f, lend_o, lend_i, lend_b, lend_n, lend_s, lend_t, cap_k, cap_f, lend_l, lend_f, sh_o, sh_l, sh_f, sh_k, Bool.or_true, Bool.true_or, Bool.or_false, Bool.false_or, intD, isLst, lstO, List.set_cons_zero, List.set_cons_succ, bind_S, forL_0, kL_nx, kL_ct, kL_bk, kL_rt, tg_n, tg_t, tg_0, tg_s, wp_0, wp_s, bk_0, bk_s, rd_0, rd_s, sb_a, sb_l, si_a, si_l, hd_0, out_t, out_f, argD, ite_self, List.map_cons, List.map_nil, List.append_nil, List.cons_append, List.nil_append, Bool.and_true, Bool.true_and, Bool.not_true, Bool.not_false, Bool.and_false, Bool.false_and, true_and, and_true, decide_eq_true_eq, Bool.false_eq_true, if_false, if_true, ite_true, ite_false, reduceIte, Bool.not_eq_true']; exact hk
  obtain ⟨xs, p1, v1, hv1, fx, lx, e1⟩ := ok_spans ns 0 0 (by omega)
  refine step (L ns (some (stt ns p1 v1)) (some (spD .o xs)) none none none none none none none none none none none none none) (fun k Q hk => ?_) ?_
  · simp only [L, e_cst, e_nil, e_yes, e_var, e_fv, e_mv, e_cons, e_dfr, e_op, e_tup, e_lst, e_tr, e_notT, e_andT, e_orT, e_andV, e_orV, e_notV, e_opq, e_if, e_call, e_callM, e_chain, e_src, e_rng, e_lc, g_nx, g_retN, g_brk, g_cnt, g_seq, g_drop, g_ret, g_asg, g_if, g_for, g_app, g_set, kk_ok, kS_ok, kQ_nx, kQ_rt, kQ_bk, kQ_ct, has_some, sl_0, sl_s, st_0, st_s, v_add, v_sub, v_neg, v_lt, v_le, v_gt, v_ge, v_eqi, v_nei, v_is, v_isNot, v_len, v_lenT, v_abs, v_int, v_item, v_itemT, v_list, v_max, v_min, v_repr, blD_bl, truD_bl, truD_lst, isF_int, isF_bl, isF_non, isF_tup, isF_str, isF_lf, isF_lk, isF_lo, isF_ll, at_0, at_1, at_2, ix_0, ix_1, ix_2, cap_i, cap_t, noL_i, noL_n, noL_b, noL_t, ck_0, ck_s, lk_0, lk_1, lk_2, lk_3, lk_4, ln_0, ln_1, ln_2, ln_3, ln_4, own_o, own_l, own_f, its_o, its_l, its_f, lend_o, lend_i, lend_b, lend_n, lend_s, lend_t, cap_k, cap_f, lend_l, lend_f, sh_o, sh_l, sh_f, sh_k, Bool.or_true, Bool.true_or, Bool.or_false, Bool.false_or, intD, isLst, lstO, List.set_cons_zero, List.set_cons_succ, bind_S, forL_0, kL_nx, kL_ct, kL_bk, kL_rt, tg_n, tg_t, tg_0, tg_s, wp_0, wp_s, bk_0, bk_s, rd_0, rd_s, sb_a, sb_l, si_a, si_l, hd_0, out_t, out_f, argD, ite_self, List.map_cons, List.map_nil, List.append_nil, List.cons_append, List.nil_append, Bool.and_true, Bool.true_and, Bool.not_true, Bool.not_false, Bool.and_false, Bool.false_and, true_and, and_true, decide_eq_true_eq, Bool.false_eq_true, if_false, if_true, ite_true, ite_false, reduceIte, Bool.not_eq_true', e1]; exact hk
  obtain ⟨ys0, p2, v2, hv2, fy0, ly0, e2⟩ := ok_spans ns p1 v1 hv1
  refine step (L ns (some (stt ns p2 v2)) (some (spD .o xs)) (some (spD .o ys0)) none none none none none none none none none none none none) (fun k Q hk => ?_) ?_
  · simp only [L, e_cst, e_nil, e_yes, e_var, e_fv, e_mv, e_cons, e_dfr, e_op, e_tup, e_lst, e_tr, e_notT, e_andT, e_orT, e_andV, e_orV, e_notV, e_opq, e_if, e_call, e_callM, e_chain, e_src, e_rng, e_lc, g_nx, g_retN, g_brk, g_cnt, g_seq, g_drop, g_ret, g_asg, g_if, g_for, g_app, g_set, kk_ok, kS_ok, kQ_nx, kQ_rt, kQ_bk, kQ_ct, has_some, sl_0, sl_s, st_0, st_s, v_add, v_sub, v_neg, v_lt, v_le, v_gt, v_ge, v_eqi, v_nei, v_is, v_isNot, v_len, v_lenT, v_abs, v_int, v_item, v_itemT, v_list, v_max, v_min, v_repr, blD_bl, truD_bl, truD_lst, isF_int, isF_bl, isF_non, isF_tup, isF_str, isF_lf, isF_lk, isF_lo, isF_ll, at_0, at_1, at_2, ix_0, ix_1, ix_2, cap_i, cap_t, noL_i, noL_n, noL_b, noL_t, ck_0, ck_s, lk_0, lk_1, lk_2, lk_3, lk_4, ln_0, ln_1, ln_2, ln_3, ln_4, own_o, own_l, own_f, its_o, its_l, its_f, lend_o, lend_i, lend_b, lend_n, lend_s, lend_t, cap_k, cap_f, lend_l, lend_f, sh_o, sh_l, sh_f, sh_k, Bool.or_true, Bool.true_or, Bool.or_false, Bool.false_or, intD, isLst, lstO, List.set_cons_zero, List.set_cons_succ, bind_S, forL_0, kL_nx, kL_ct, kL_bk, kL_rt, tg_n, tg_t, tg_0, tg_s, wp_0, wp_s, bk_0, bk_s, rd_0, rd_s, sb_a, sb_l, si_a, si_l, hd_0, out_t, out_f, argD, ite_self, List.map_cons, List.map_nil, List.append_nil, List.cons_append, List.nil_append, Bool.and_true, Bool.true_and, Bool.not_true, Bool.not_false, Bool.and_false, Bool.false_and, true_and, and_true, decide_eq_true_eq, Bool.false_eq_true, if_false, if_true, ite_true, ite_false, reduceIte, Bool.not_eq_true', e2]; exact hk
  obtain ⟨r3, p3, v3, _, _, hv3, e3⟩ := take_ok ns p2 v2 3 hv2 (by omega) (by omega)
  -- the second list may be a part of the first
  rw [g_seq]
  have other : ∀ QQ : Out → DS → Prop, (∀ (ys : Sp) (p4 : Nat) (v4 : Int), Fine ys → ys.length ≤ 4 → 0 ≤ v4 → QQ .nx (L ns (some (stt ns p4 v4)) (some (spD .o xs)) (some (spD .o ys)) none none none none none none none none none none none none)) →
      Go (evIfS (evTr blD (evOp gEq (evCons false true (evCallM F__law_take 1 [false] [] (evCons false true (evCst (.int 3)) (evNil))) (evCons false true (evCst (.int 0)) evNil)))) (evSeq (evAsg 3 (evLc (evSrc (some 2) true (evVar 2)) (tgName 17) ct_law_0 ce_law_1 [17])) (evNx)) (evNx))
        (L ns (some (stt ns p2 v2)) (some (spD .o xs)) (some (spD .o ys0)) none none none none none none none none none none none none) QQ := fun QQ h => by
    simp only [L, e_cst, e_nil, e_yes, e_var, e_fv, e_mv, e_cons, e_dfr, e_op, e_tup, e_lst, e_tr, e_notT, e_andT, e_orT, e_andV, e_orV, e_notV, e_opq, e_if, e_call, e_callM, e_chain, e_src, e_rng, e_lc, g_nx, g_retN, g_brk, g_cnt, g_seq, g_drop, g_ret, g_asg, g_if, g_for, g_app, g_set, kk_ok, kS_ok, kQ_nx, kQ_rt, kQ_bk, kQ_ct, has_some, sl_0, sl_s, st_0, st_s, v_add, v_sub, v_neg, v_lt, v_le, v_gt, v_ge, v_eqi, v_nei, v_is, v_isNot, v_len, v_lenT, v_abs, v_int, v_item, v_itemT, v_list, v_max, v_min, v_repr, blD_bl, truD_bl, truD_lst, isF_int, isF_bl, isF_non, isF_tup, isF_str, isF_lf, isF_lk, isF_lo, isF_ll, at_0, at_1, at_2, ix_0, ix_1, ix_2, cap_i, cap_t, noL_i, noL_n, noL_b, noL_t, ck_0, ck_s, lk_0, lk_1, lk_2, lk_3, lk_4, ln_0, ln_1, ln_2, ln_3, ln_4, own_o, own_l, own_f, its_o, its_l, its_f, lend_o, lend_i, lend_b, lend_n, lend_s, lend_t, cap_k, cap_f, lend_l, lend_f, sh_o, sh_l, sh_f, sh_k, Bool.or_true, Bool.true_or, Bool.or_false, Bool.false_or, intD, isLst, lstO, List.set_cons_zero, List.set_cons_succ, bind_S, forL_0, kL_nx, kL_ct, kL_bk, kL_rt, tg_n, tg_t, tg_0, tg_s, wp_0, wp_s, bk_0, bk_s, rd_0, rd_s, sb_a, sb_l, si_a, si_l, hd_0, out_t, out_f, argD, ite_self, List.map_cons, List.map_nil, List.append_nil, List.cons_append, List.nil_append, Bool.and_true, Bool.true_and, Bool.not_true, Bool.not_false, Bool.and_false, Bool.false_and, true_and, and_true, decide_eq_true_eq, Bool.false_eq_true, if_false, if_true, ite_true, ite_false, reduceIte, Bool.not_eq_true', e3]
    by_cases hz : r3 = 0
    · simp only [hz, e_cst, e_nil, e_yes, e_var, e_fv, e_mv, e_cons, e_dfr, e_op, e_tup, e_lst, e_tr, e_notT, e_andT, e_orT, e_andV, e_orV, e_notV, e_opq, e_if, e_call, e_callM, e_chain, e_src, e_rng, e_lc, g_nx, g_retN, g_brk, g_cnt, g_seq, g_drop, g_ret, g_asg, g_if, g_for, g_app, g_set, kk_ok, kS_ok, kQ_nx, kQ_rt, kQ_bk, kQ_ct, has_some, sl_0, sl_s, st_0, st_s, v_add, v_sub, v_neg, v_lt, v_le, v_gt, v_ge, v_eqi, v_nei, v_is, v_isNot, v_len, v_lenT, v_abs, v_int, v_item, v_itemT, v_list, v_max, v_min, v_repr, blD_bl, truD_bl, truD_lst, isF_int, isF_bl, isF_non, isF_tup, isF_str, isF_lf, isF_lk, isF_lo, isF_ll, at_0, at_1, at_2, ix_0, ix_1, ix_2, cap_i, cap_t, noL_i, noL_n, noL_b, noL_t, ck_0, ck_s, lk_0, lk_1, lk_2, lk_3, lk_4, ln_0, ln_1, ln_2, ln_3, ln_4, own_o, own_l, own_f, its_o, its_l, its_f, lend_o, lend_i, lend_b, lend_n, lend_s, lend_t, cap_k, cap_f, lend_l, lend_f, sh_o, sh_l, sh_f, sh_k, Bool.or_true, Bool.true_or, Bool.or_false, Bool.false_or, intD, isLst, lstO, List.set_cons_zero, List.set_cons_succ, bind_S, forL_0, kL_nx, kL_ct, kL_bk, kL_rt, tg_n, tg_t, tg_0, tg_s, wp_0, wp_s, bk_0, bk_s, rd_0, rd_s, sb_a, sb_l, si_a, si_l, hd_0, out_t, out_f, argD, ite_self, List.map_cons, List.map_nil, List.append_nil, List.cons_append, List.nil_append, Bool.and_true, Bool.true_and, Bool.not_true, Bool.not_false, Bool.and_false, Bool.false_and, true_and, and_true, decide_eq_true_eq, Bool.false_eq_true, if_false, if_true, ite_true, ite_false, reduceIte, Bool.not_eq_true']
      refine lp_sub (ns := ns) xs [] p3 v3 hv3 (by simp; omega) fun zs p' v' s hv' => ?_
      simp only [e_cst, e_nil, e_yes, e_var, e_fv, e_mv, e_cons, e_dfr, e_op, e_tup, e_lst, e_tr, e_notT, e_andT, e_orT, e_andV, e_orV, e_notV, e_opq, e_if, e_call, e_callM, e_chain, e_src, e_rng, e_lc, g_nx, g_retN, g_brk, g_cnt, g_seq, g_drop, g_ret, g_asg, g_if, g_for, g_app, g_set, kk_ok, kS_ok, kQ_nx, kQ_rt, kQ_bk, kQ_ct, has_some, sl_0, sl_s, st_0, st_s, v_add, v_sub, v_neg, v_lt, v_le, v_gt, v_ge, v_eqi, v_nei, v_is, v_isNot, v_len, v_lenT, v_abs, v_int, v_item, v_itemT, v_list, v_max, v_min, v_repr, blD_bl, truD_bl, truD_lst, isF_int, isF_bl, isF_non, isF_tup, isF_str, isF_lf, isF_lk, isF_lo, isF_ll, at_0, at_1, at_2, ix_0, ix_1, ix_2, cap_i, cap_t, noL_i, noL_n, noL_b, noL_t, ck_0, ck_s, lk_0, lk_1, lk_2, lk_3, lk_4, ln_0, ln_1, ln_2, ln_3, ln_4, own_o, own_l, own_f, its_o, its_l, its_f, lend_o, lend_i, lend_b, lend_n, lend_s, lend_t, cap_k, cap_f, lend_l, lend_f, sh_o, sh_l, sh_f, sh_k, Bool.or_true, Bool.true_or, Bool.or_false, Bool.false_or, intD, isLst, lstO, List.set_cons_zero, List.set_cons_succ, bind_S, forL_0, kL_nx, kL_ct, kL_bk, kL_rt, tg_n, tg_t, tg_0, tg_s, wp_0, wp_s, bk_0, bk_s, rd_0, rd_s, sb_a, sb_l, si_a, si_l, hd_0, out_t, out_f, argD, ite_self, List.map_cons, List.map_nil, List.append_nil, List.cons_append, List.nil_append, Bool.and_true, Bool.true_and, Bool.not_true, Bool.not_false, Bool.and_false, Bool.false_and, true_and, and_true, decide_eq_true_eq, Bool.false_eq_true, if_false, if_true, ite_true, ite_false, reduceIte, Bool.not_eq_true']
      exact h zs p' v' (fx.sub s) (Nat.le_trans s.length_le lx) hv'
    · simp only [hz, e_cst, e_nil, e_yes, e_var, e_fv, e_mv, e_cons, e_dfr, e_op, e_tup, e_lst, e_tr, e_notT, e_andT, e_orT, e_andV, e_orV, e_notV, e_opq, e_if, e_call, e_callM, e_chain, e_src, e_rng, e_lc, g_nx, g_retN, g_brk, g_cnt, g_seq, g_drop, g_ret, g_asg, g_if, g_for, g_app, g_set, kk_ok, kS_ok, kQ_nx, kQ_rt, kQ_bk, kQ_ct, has_some, sl_0, sl_s, st_0, st_s, v_add, v_sub, v_neg, v_lt, v_le, v_gt, v_ge, v_eqi, v_nei, v_is, v_isNot, v_len, v_lenT, v_abs, v_int, v_item, v_itemT, v_list, v_max, v_min, v_repr, blD_bl, truD_bl, truD_lst, isF_int, isF_bl, isF_non, isF_tup, isF_str, isF_lf, isF_lk, isF_lo, isF_ll, at_0, at_1, at_2, ix_0, ix_1, ix_2, cap_i, cap_t, noL_i, noL_n, noL_b, noL_t, ck_0, ck_s, lk_0, lk_1, lk_2, lk_3, lk_4, ln_0, ln_1, ln_2, ln_3, ln_4, own_o, own_l, own_f, its_o, its_l, its_f, lend_o, lend_i, lend_b, lend_n, lend_s, lend_t, cap_k, cap_f, lend_l, lend_f, sh_o, sh_l, sh_f, sh_k, Bool.or_true, Bool.true_or, Bool.or_false, Bool.false_or, intD, isLst, lstO, List.set_cons_zero, List.set_cons_succ, bind_S, forL_0, kL_nx, kL_ct, kL_bk, kL_rt, tg_n, tg_t, tg_0, tg_s, wp_0, wp_s, bk_0, bk_s, rd_0, rd_s, sb_a, sb_l, si_a, si_l, hd_0, out_t, out_f, argD, ite_self, List.map_cons, List.map_nil, List.append_nil, List.cons_append, List.nil_append, Bool.and_true, Bool.true_and, Bool.not_true, Bool.not_false, Bool.and_false, Bool.false_and, true_and, and_true, decide_eq_true_eq, Bool.false_eq_true, if_false, if_true, ite_true, ite_false, reduceIte, Bool.not_eq_true']
      exact h ys0 p3 v3 fy0 ly0 hv3
  refine other _ fun ys p4 v4 fy ly hv4 => ?_
  rw [kQ_nx]
  have hb : ∀ t, In xs t → -60 ≤ t ∧ t < 130 := fun t h => by have := fx.2 t h; omega
  have mS : ∀ t, t ∈ setP xs ↔ In xs t := fun t => mem_set.trans ⟨fun z => z.2, fun z => ⟨hb t z, z⟩⟩
  have mT : ∀ t, t ∈ setP ys ↔ In ys t := fun t => mem_set.trans ⟨fun z => z.2, fun z => ⟨by have := fy.2 t z; omega, z⟩⟩
  have lS := set_len xs
  have lT := set_len ys
  refine step (L ns (some (stt ns p4 v4)) (some (spD .o xs)) (some (spD .o ys)) (some (miD .o (setP xs))) none none none none none none none none none none none) (fun k Q hk => ?_) ?_
  · simp only [L, e_cst, e_nil, e_yes, e_var, e_fv, e_mv, e_cons, e_dfr, e_op, e_tup, e_lst, e_tr, e_notT, e_andT, e_orT, e_andV, e_orV, e_notV, e_opq, e_if, e_call, e_callM, e_chain, e_src, e_rng, e_lc, g_nx, g_retN, g_brk, g_cnt, g_seq, g_drop, g_ret, g_asg, g_if, g_for, g_app, g_set, kk_ok, kS_ok, kQ_nx, kQ_rt, kQ_bk, kQ_ct, has_some, sl_0, sl_s, st_0, st_s, v_add, v_sub, v_neg, v_lt, v_le, v_gt, v_ge, v_eqi, v_nei, v_is, v_isNot, v_len, v_lenT, v_abs, v_int, v_item, v_itemT, v_list, v_max, v_min, v_repr, blD_bl, truD_bl, truD_lst, isF_int, isF_bl, isF_non, isF_tup, isF_str, isF_lf, isF_lk, isF_lo, isF_ll, at_0, at_1, at_2, ix_0, ix_1, ix_2, cap_i, cap_t, noL_i, noL_n, noL_b, noL_t, ck_0, ck_s, lk_0, lk_1, lk_2, lk_3, lk_4, ln_0, ln_1, ln_2, ln_3, ln_4, own_o, own_l, own_f, its_o, its_l, its_f, lend_o, lend_i, lend_b, lend_n, lend_s, lend_t, cap_k, cap_f, lend_l, lend_f, sh_o, sh_l, sh_f, sh_k, Bool.or_true, Bool.true_or, Bool.or_false, Bool.false_or, intD, isLst, lstO, List.set_cons_zero, List.set_cons_succ, bind_S, forL_0, kL_nx, kL_ct, kL_bk, kL_rt, tg_n, tg_t, tg_0, tg_s, wp_0, wp_s, bk_0, bk_s, rd_0, rd_s, sb_a, sb_l, si_a, si_l, hd_0, out_t, out_f, argD, ite_self, List.map_cons, List.map_nil, List.append_nil, List.cons_append, List.nil_append, Bool.and_true, Bool.true_and, Bool.not_true, Bool.not_false, Bool.and_false, Bool.false_and, true_and, and_true, decide_eq_true_eq, Bool.false_eq_true, if_false, if_true, ite_true, ite_false, reduceIte, Bool.not_eq_true', ok_set RO.l xs (by omega)]; exact hk
  refine step (L ns (some (stt ns p4 v4)) (some (spD .o xs)) (some (spD .o ys)) (some (miD .o (setP xs))) (some (miD .o (setP ys))) none none none none none none none none none none) (fun k Q hk => ?_) ?_
  · simp only [L, e_cst, e_nil, e_yes, e_var, e_fv, e_mv, e_cons, e_dfr, e_op, e_tup, e_lst, e_tr, e_notT, e_andT, e_orT, e_andV, e_orV, e_notV, e_opq, e_if, e_call, e_callM, e_chain, e_src, e_rng, e_lc, g_nx, g_retN, g_brk, g_cnt, g_seq, g_drop, g_ret, g_asg, g_if, g_for, g_app, g_set, kk_ok, kS_ok, kQ_nx, kQ_rt, kQ_bk, kQ_ct, has_some, sl_0, sl_s, st_0, st_s, v_add, v_sub, v_neg, v_lt, v_le, v_gt, v_ge, v_eqi, v_nei, v_is, v_isNot, v_len, v_lenT, v_abs, v_int, v_item, v_itemT, v_list, v_max, v_min, v_repr, blD_bl, truD_bl, truD_lst, isF_int, isF_bl, isF_non, isF_tup, isF_str, isF_lf, isF_lk, isF_lo, isF_ll, at_0, at_1, at_2, ix_0, ix_1, ix_2, cap_i, cap_t, noL_i, noL_n, noL_b, noL_t, ck_0, ck_s, lk_0, lk_1, lk_2, lk_3, lk_4, ln_0, ln_1, ln_2, ln_3, ln_4, own_o, own_l, own_f, its_o, its_l, its_f, lend_o, lend_i, lend_b, lend_n, lend_s, lend_t, cap_k, cap_f, lend_l, lend_f, sh_o, sh_l, sh_f, sh_k, Bool.or_true, Bool.true_or, Bool.or_false, Bool.false_or, intD, isLst, lstO, List.set_cons_zero, List.set_cons_succ, bind_S, forL_0, kL_nx, kL_ct, kL_bk, kL_rt, tg_n, tg_t, tg_0, tg_s, wp_0, wp_s, bk_0, bk_s, rd_0, rd_s, sb_a, sb_l, si_a, si_l, hd_0, out_t, out_f, argD, ite_self, List.map_cons, List.map_nil, List.append_nil, List.cons_append, List.nil_append, Bool.and_true, Bool.true_and, Bool.not_true, Bool.not_false, Bool.and_false, Bool.false_and, true_and, and_true, decide_eq_true_eq, Bool.false_eq_true, if_false, if_true, ite_true, ite_false, reduceIte, Bool.not_eq_true', ok_set RO.l ys (by omega)]; exact hk
  refine stepE (fun δ' => ∃ (p : Nat) (v : Int) (a6 : Option D), 0 ≤ v ∧ δ' = L ns (some (stt ns p v)) (some (spD .o xs)) (some (spD .o ys)) (some (miD .o (setP xs))) (some (miD .o (setP ys))) a6 none none none none none none none none none) (fun QQ h => ?_) ?_
  · simp only [L, e_cst, e_nil, e_yes, e_var, e_fv, e_mv, e_cons, e_dfr, e_op, e_tup, e_lst, e_tr, e_notT, e_andT, e_orT, e_andV, e_orV, e_notV, e_opq, e_if, e_call, e_callM, e_chain, e_src, e_rng, e_lc, g_nx, g_retN, g_brk, g_cnt, g_seq, g_drop, g_ret, g_asg, g_if, g_for, g_app, g_set, kk_ok, kS_ok, kQ_nx, kQ_rt, kQ_bk, kQ_ct, has_some, sl_0, sl_s, st_0, st_s, v_add, v_sub, v_neg, v_lt, v_le, v_gt, v_ge, v_eqi, v_nei, v_is, v_isNot, v_len, v_lenT, v_abs, v_int, v_item, v_itemT, v_list, v_max, v_min, v_repr, blD_bl, truD_bl, truD_lst, isF_int, isF_bl, isF_non, isF_tup, isF_str, isF_lf, isF_lk, isF_lo, isF_ll, at_0, at_1, at_2, ix_0, ix_1, ix_2, cap_i, cap_t, noL_i, noL_n, noL_b, noL_t, ck_0, ck_s, lk_0, lk_1, lk_2, lk_3, lk_4, ln_0, ln_1, ln_2, ln_3, ln_4, own_o, own_l, own_f, its_o, its_l, its_f, lend_o, lend_i, lend_b, lend_n, lend_s, lend_t, cap_k, cap_f, lend_l, lend_f, sh_o, sh_l, sh_f, sh_k, Bool.or_true, Bool.true_or, Bool.or_false, Bool.false_or, intD, isLst, lstO, List.set_cons_zero, List.set_cons_succ, bind_S, forL_0, kL_nx, kL_ct, kL_bk, kL_rt, tg_n, tg_t, tg_0, tg_s, wp_0, wp_s, bk_0, bk_s, rd_0, rd_s, sb_a, sb_l, si_a, si_l, hd_0, out_t, out_f, argD, ite_self, List.map_cons, List.map_nil, List.append_nil, List.cons_append, List.nil_append, Bool.and_true, Bool.true_and, Bool.not_true, Bool.not_false, Bool.and_false, Bool.false_and, true_and, and_true, decide_eq_true_eq, Bool.false_eq_true, if_false, if_true, ite_true, ite_false, reduceIte, Bool.not_eq_true', rng1_i 3 (by decide)]
    refine lp_one (ns := ns) fx lx _ p4 v4 none hv4 fun p' v' a6 hv' => ?_
    simp only [e_cst, e_nil, e_yes, e_var, e_fv, e_mv, e_cons, e_dfr, e_op, e_tup, e_lst, e_tr, e_notT, e_andT, e_orT, e_andV, e_orV, e_notV, e_opq, e_if, e_call, e_callM, e_chain, e_src, e_rng, e_lc, g_nx, g_retN, g_brk, g_cnt, g_seq, g_drop, g_ret, g_asg, g_if, g_for, g_app, g_set, kk_ok, kS_ok, kQ_nx, kQ_rt, kQ_bk, kQ_ct, has_some, sl_0, sl_s, st_0, st_s, v_add, v_sub, v_neg, v_lt, v_le, v_gt, v_ge, v_eqi, v_nei, v_is, v_isNot, v_len, v_lenT, v_abs, v_int, v_item, v_itemT, v_list, v_max, v_min, v_repr, blD_bl, truD_bl, truD_lst, isF_int, isF_bl, isF_non, isF_tup, isF_str, isF_lf, isF_lk, isF_lo, isF_ll, at_0, at_1, at_2, ix_0, ix_1, ix_2, cap_i, cap_t, noL_i, noL_n, noL_b, noL_t, ck_0, ck_s, lk_0, lk_1, lk_2, lk_3, lk_4, ln_0, ln_1, ln_2, ln_3, ln_4, own_o, own_l, own_f, its_o, its_l, its_f, lend_o, lend_i, lend_b, lend_n, lend_s, lend_t, cap_k, cap_f, lend_l, lend_f, sh_o, sh_l, sh_f, sh_k, Bool.or_true, Bool.true_or, Bool.or_false, Bool.false_or, intD, isLst, lstO, List.set_cons_zero, List.set_cons_succ, bind_S, forL_0, kL_nx, kL_ct, kL_bk, kL_rt, tg_n, tg_t, tg_0, tg_s, wp_0, wp_s, bk_0, bk_s, rd_0, rd_s, sb_a, sb_l, si_a, si_l, hd_0, out_t, out_f, argD, ite_self, List.map_cons, List.map_nil, List.append_nil, List.cons_append, List.nil_append, Bool.and_true, Bool.true_and, Bool.not_true, Bool.not_false, Bool.and_false, Bool.false_and, true_and, and_true, decide_eq_true_eq, Bool.false_eq_true, if_false, if_true, ite_true, ite_false, reduceIte, Bool.not_eq_true']
    exact h _ ⟨p', v', a6, hv', rfl⟩
  rintro _ ⟨p5, v5, a6, hv5, rfl⟩
  let C := (setP xs).filter fun v => decide (v ∈ setP ys)
  refine step (L ns (some (stt ns p5 v5)) (some (spD .o xs)) (some (spD .o ys)) (some (miD .o (setP xs))) (some (miD .o (setP ys))) a6 (some (miD .o C)) none none none none none none none none) (fun k Q hk => ?_) ?_
  · simp only [L, e_cst, e_nil, e_yes, e_var, e_fv, e_mv, e_cons, e_dfr, e_op, e_tup, e_lst, e_tr, e_notT, e_andT, e_orT, e_andV, e_orV, e_notV, e_opq, e_if, e_call, e_callM, e_chain, e_src, e_rng, e_lc, g_nx, g_retN, g_brk, g_cnt, g_seq, g_drop, g_ret, g_asg, g_if, g_for, g_app, g_set, kk_ok, kS_ok, kQ_nx, kQ_rt, kQ_bk, kQ_ct, has_some, sl_0, sl_s, st_0, st_s, v_add, v_sub, v_neg, v_lt, v_le, v_gt, v_ge, v_eqi, v_nei, v_is, v_isNot, v_len, v_lenT, v_abs, v_int, v_item, v_itemT, v_list, v_max, v_min, v_repr, blD_bl, truD_bl, truD_lst, isF_int, isF_bl, isF_non, isF_tup, isF_str, isF_lf, isF_lk, isF_lo, isF_ll, at_0, at_1, at_2, ix_0, ix_1, ix_2, cap_i, cap_t, noL_i, noL_n, noL_b, noL_t, ck_0, ck_s, lk_0, lk_1, lk_2, lk_3, lk_4, ln_0, ln_1, ln_2, ln_3, ln_4, own_o, own_l, own_f, its_o, its_l, its_f, lend_o, lend_i, lend_b, lend_n, lend_s, lend_t, cap_k, cap_f, lend_l, lend_f, sh_o, sh_l, sh_f, sh_k, Bool.or_true, Bool.true_or, Bool.or_false, Bool.false_or, intD, isLst, lstO, List.set_cons_zero, List.set_cons_succ, bind_S, forL_0, kL_nx, kL_ct, kL_bk, kL_rt, tg_n, tg_t, tg_0, tg_s, wp_0, wp_s, bk_0, bk_s, rd_0, rd_s, sb_a, sb_l, si_a, si_l, hd_0, out_t, out_f, argD, ite_self, List.map_cons, List.map_nil, List.append_nil, List.cons_append, List.nil_append, Bool.and_true, Bool.true_and, Bool.not_true, Bool.not_false, Bool.and_false, Bool.false_and, true_and, and_true, decide_eq_true_eq, Bool.false_eq_true, if_false, if_true, ite_true, ite_false, reduceIte, Bool.not_eq_true']
    refine has_cmpF (fun v => decide (v ∈ setP ys)) (fun v : Int => v) .int cap_i' (setP xs) (by omega) (fun v _ => ?_) ?_
    · have ci := v_in (f := D.int) (m := .o) (a := v) (xs := setP ys) eqD_i (fun _ => by simp [dp]) (fun _ h => by cases h)
      simp only [ct_law_3, ce_law_4, e_cst, e_nil, e_yes, e_var, e_fv, e_mv, e_cons, e_dfr, e_op, e_tup, e_lst, e_tr, e_notT, e_andT, e_orT, e_andV, e_orV, e_notV, e_opq, e_if, e_call, e_callM, e_chain, e_src, e_rng, e_lc, g_nx, g_retN, g_brk, g_cnt, g_seq, g_drop, g_ret, g_asg, g_if, g_for, g_app, g_set, kk_ok, kS_ok, kQ_nx, kQ_rt, kQ_bk, kQ_ct, has_some, sl_0, sl_s, st_0, st_s, v_add, v_sub, v_neg, v_lt, v_le, v_gt, v_ge, v_eqi, v_nei, v_is, v_isNot, v_len, v_lenT, v_abs, v_int, v_item, v_itemT, v_list, v_max, v_min, v_repr, blD_bl, truD_bl, truD_lst, isF_int, isF_bl, isF_non, isF_tup, isF_str, isF_lf, isF_lk, isF_lo, isF_ll, at_0, at_1, at_2, ix_0, ix_1, ix_2, cap_i, cap_t, noL_i, noL_n, noL_b, noL_t, ck_0, ck_s, lk_0, lk_1, lk_2, lk_3, lk_4, ln_0, ln_1, ln_2, ln_3, ln_4, own_o, own_l, own_f, its_o, its_l, its_f, lend_o, lend_i, lend_b, lend_n, lend_s, lend_t, cap_k, cap_f, lend_l, lend_f, sh_o, sh_l, sh_f, sh_k, Bool.or_true, Bool.true_or, Bool.or_false, Bool.false_or, intD, isLst, lstO, List.set_cons_zero, List.set_cons_succ, bind_S, forL_0, kL_nx, kL_ct, kL_bk, kL_rt, tg_n, tg_t, tg_0, tg_s, wp_0, wp_s, bk_0, bk_s, rd_0, rd_s, sb_a, sb_l, si_a, si_l, hd_0, out_t, out_f, argD, ite_self, List.map_cons, List.map_nil, List.append_nil, List.cons_append, List.nil_append, Bool.and_true, Bool.true_and, Bool.not_true, Bool.not_false, Bool.and_false, Bool.false_and, true_and, and_true, decide_eq_true_eq, Bool.false_eq_true, if_false, if_true, ite_true, ite_false, reduceIte, Bool.not_eq_true', ci]
      try (by_cases h : v ∈ setP ys <;> simp [h, e_cst, e_nil, e_yes, e_var, e_fv, e_mv, e_cons, e_dfr, e_op, e_tup, e_lst, e_tr, e_notT, e_andT, e_orT, e_andV, e_orV, e_notV, e_opq, e_if, e_call, e_callM, e_chain, e_src, e_rng, e_lc, g_nx, g_retN, g_brk, g_cnt, g_seq, g_drop, g_ret, g_asg, g_if, g_for, g_app, g_set, kk_ok, kS_ok, kQ_nx, kQ_rt, kQ_bk, kQ_ct, has_some, sl_0, sl_s, st_0, st_s, v_add, v_sub, v_neg, v_lt, v_le, v_gt, v_ge, v_eqi, v_nei, v_is, v_isNot, v_len, v_lenT, v_abs, v_int, v_item, v_itemT, v_list, v_max, v_min, v_repr, blD_bl, truD_bl, truD_lst, isF_int, isF_bl, isF_non, isF_tup, isF_str, isF_lf, isF_lk, isF_lo, isF_ll, at_0, at_1, at_2, ix_0, ix_1, ix_2, cap_i, cap_t, noL_i, noL_n, noL_b, noL_t, ck_0, ck_s, lk_0, lk_1, lk_2, lk_3, lk_4, ln_0, ln_1, ln_2, ln_3, ln_4, own_o, own_l, own_f, its_o, its_l, its_f, lend_o, lend_i, lend_b, lend_n, lend_s, lend_t, cap_k, cap_f, lend_l, lend_f, sh_o, sh_l, sh_f, sh_k, Bool.or_true, Bool.true_or, Bool.or_false, Bool.false_or, intD, isLst, lstO, List.set_cons_zero, List.set_cons_succ, bind_S, forL_0, kL_nx, kL_ct, kL_bk, kL_rt, tg_n, tg_t, tg_0, tg_s, wp_0, wp_s, bk_0, bk_s, rd_0, rd_s, sb_a, sb_l, si_a, si_l, hd_0, out_t, out_f, argD, ite_self, List.map_cons, List.map_nil, List.append_nil, List.cons_append, List.nil_append, Bool.and_true, Bool.true_and, Bool.not_true, Bool.not_false, Bool.and_false, Bool.false_and, true_and, and_true, decide_eq_true_eq, Bool.false_eq_true, if_false, if_true, ite_true, ite_false, reduceIte, Bool.not_eq_true'])
    · simp only [e_cst, e_nil, e_yes, e_var, e_fv, e_mv, e_cons, e_dfr, e_op, e_tup, e_lst, e_tr, e_notT, e_andT, e_orT, e_andV, e_orV, e_notV, e_opq, e_if, e_call, e_callM, e_chain, e_src, e_rng, e_lc, g_nx, g_retN, g_brk, g_cnt, g_seq, g_drop, g_ret, g_asg, g_if, g_for, g_app, g_set, kk_ok, kS_ok, kQ_nx, kQ_rt, kQ_bk, kQ_ct, has_some, sl_0, sl_s, st_0, st_s, v_add, v_sub, v_neg, v_lt, v_le, v_gt, v_ge, v_eqi, v_nei, v_is, v_isNot, v_len, v_lenT, v_abs, v_int, v_item, v_itemT, v_list, v_max, v_min, v_repr, blD_bl, truD_bl, truD_lst, isF_int, isF_bl, isF_non, isF_tup, isF_str, isF_lf, isF_lk, isF_lo, isF_ll, at_0, at_1, at_2, ix_0, ix_1, ix_2, cap_i, cap_t, noL_i, noL_n, noL_b, noL_t, ck_0, ck_s, lk_0, lk_1, lk_2, lk_3, lk_4, ln_0, ln_1, ln_2, ln_3, ln_4, own_o, own_l, own_f, its_o, its_l, its_f, lend_o, lend_i, lend_b, lend_n, lend_s, lend_t, cap_k, cap_f, lend_l, lend_f, sh_o, sh_l, sh_f, sh_k, Bool.or_true, Bool.true_or, Bool.or_false, Bool.false_or, intD, isLst, lstO, List.set_cons_zero, List.set_cons_succ, bind_S, forL_0, kL_nx, kL_ct, kL_bk, kL_rt, tg_n, tg_t, tg_0, tg_s, wp_0, wp_s, bk_0, bk_s, rd_0, rd_s, sb_a, sb_l, si_a, si_l, hd_0, out_t, out_f, argD, ite_self, List.map_cons, List.map_nil, List.append_nil, List.cons_append, List.nil_append, Bool.and_true, Bool.true_and, Bool.not_true, Bool.not_false, Bool.and_false, Bool.false_and, true_and, and_true, decide_eq_true_eq, Bool.false_eq_true, if_false, if_true, ite_true, ite_false, reduceIte, Bool.not_eq_true', List.map_id']
      exact hk
  have gM := meet_good fy.1 fx.1
  have lM := meetP_len xs ys
  have lM2 : (meetP xs ys).length ≤ 16 := Nat.le_trans lM (Nat.mul_le_mul lx ly)
  refine step (L ns (some (stt ns p5 v5)) (some (spD .o xs)) (some (spD .o ys)) (some (miD .o (setP xs))) (some (miD .o (setP ys))) a6 (some (miD .o C)) (some (spD .o (meetP xs ys))) none none none none none none none) (fun k Q hk => ?_) ?_
  · have em := ok_meet RO.f RO.l xs ys (by have := Nat.mul_le_mul lx ly; omega)
    simp only [L, e_cst, e_nil, e_yes, e_var, e_fv, e_mv, e_cons, e_dfr, e_op, e_tup, e_lst, e_tr, e_notT, e_andT, e_orT, e_andV, e_orV, e_notV, e_opq, e_if, e_call, e_callM, e_chain, e_src, e_rng, e_lc, g_nx, g_retN, g_brk, g_cnt, g_seq, g_drop, g_ret, g_asg, g_if, g_for, g_app, g_set, kk_ok, kS_ok, kQ_nx, kQ_rt, kQ_bk, kQ_ct, has_some, sl_0, sl_s, st_0, st_s, v_add, v_sub, v_neg, v_lt, v_le, v_gt, v_ge, v_eqi, v_nei, v_is, v_isNot, v_len, v_lenT, v_abs, v_int, v_item, v_itemT, v_list, v_max, v_min, v_repr, blD_bl, truD_bl, truD_lst, isF_int, isF_bl, isF_non, isF_tup, isF_str, isF_lf, isF_lk, isF_lo, isF_ll, at_0, at_1, at_2, ix_0, ix_1, ix_2, cap_i, cap_t, noL_i, noL_n, noL_b, noL_t, ck_0, ck_s, lk_0, lk_1, lk_2, lk_3, lk_4, ln_0, ln_1, ln_2, ln_3, ln_4, own_o, own_l, own_f, its_o, its_l, its_f, lend_o, lend_i, lend_b, lend_n, lend_s, lend_t, cap_k, cap_f, lend_l, lend_f, sh_o, sh_l, sh_f, sh_k, Bool.or_true, Bool.true_or, Bool.or_false, Bool.false_or, intD, isLst, lstO, List.set_cons_zero, List.set_cons_succ, bind_S, forL_0, kL_nx, kL_ct, kL_bk, kL_rt, tg_n, tg_t, tg_0, tg_s, wp_0, wp_s, bk_0, bk_s, rd_0, rd_s, sb_a, sb_l, si_a, si_l, hd_0, out_t, out_f, argD, ite_self, List.map_cons, List.map_nil, List.append_nil, List.cons_append, List.nil_append, Bool.and_true, Bool.true_and, Bool.not_true, Bool.not_false, Bool.and_false, Bool.false_and, true_and, and_true, decide_eq_true_eq, Bool.false_eq_true, if_false, if_true, ite_true, ite_false, reduceIte, Bool.not_eq_true', cap_o, em]
    exact hk
  have eM : setP (meetP xs ys) = C := by
    refine Asc.uniq (set_asc _) ((set_asc _).filter _) fun t => ?_
    rw [mem_set, gM.2, List.mem_filter, decide_eq_true_eq, mS, mT]
    exact ⟨fun z => z.2, fun z => ⟨hb t z.1, z⟩⟩
  refine step (L ns (some (stt ns p5 v5)) (some (spD .o xs)) (some (spD .o ys)) (some (miD .o (setP xs))) (some (miD .o (setP ys))) a6 (some (miD .o C)) (some (spD .o (meetP xs ys))) none none none none none none none) (fun k Q hk => ?_) ?_
  · simp only [L, e_cst, e_nil, e_yes, e_var, e_fv, e_mv, e_cons, e_dfr, e_op, e_tup, e_lst, e_tr, e_notT, e_andT, e_orT, e_andV, e_orV, e_notV, e_opq, e_if, e_call, e_callM, e_chain, e_src, e_rng, e_lc, g_nx, g_retN, g_brk, g_cnt, g_seq, g_drop, g_ret, g_asg, g_if, g_for, g_app, g_set, kk_ok, kS_ok, kQ_nx, kQ_rt, kQ_bk, kQ_ct, has_some, sl_0, sl_s, st_0, st_s, v_add, v_sub, v_neg, v_lt, v_le, v_gt, v_ge, v_eqi, v_nei, v_is, v_isNot, v_len, v_lenT, v_abs, v_int, v_item, v_itemT, v_list, v_max, v_min, v_repr, blD_bl, truD_bl, truD_lst, isF_int, isF_bl, isF_non, isF_tup, isF_str, isF_lf, isF_lk, isF_lo, isF_ll, at_0, at_1, at_2, ix_0, ix_1, ix_2, cap_i, cap_t, noL_i, noL_n, noL_b, noL_t, ck_0, ck_s, lk_0, lk_1, lk_2, lk_3, lk_4, ln_0, ln_1, ln_2, ln_3, ln_4, own_o, own_l, own_f, its_o, its_l, its_f, lend_o, lend_i, lend_b, lend_n, lend_s, lend_t, cap_k, cap_f, lend_l, lend_f, sh_o, sh_l, sh_f, sh_k, Bool.or_true, Bool.true_or, Bool.or_false, Bool.false_or, intD, isLst, lstO, List.set_cons_zero, List.set_cons_succ, bind_S, forL_0, kL_nx, kL_ct, kL_bk, kL_rt, tg_n, tg_t, tg_0, tg_s, wp_0, wp_s, bk_0, bk_s, rd_0, rd_s, sb_a, sb_l, si_a, si_l, hd_0, out_t, out_f, argD, ite_self, List.map_cons, List.map_nil, List.append_nil, List.cons_append, List.nil_append, Bool.and_true, Bool.true_and, Bool.not_true, Bool.not_false, Bool.and_false, Bool.false_and, true_and, and_true, decide_eq_true_eq, Bool.false_eq_true, if_false, if_true, ite_true, ite_false, reduceIte, Bool.not_eq_true', ok_set RO.l (meetP xs ys) (by omega), eM, ne_i, ne_p, sorted_p sh_o (meetP xs ys) (by omega), sort_good gM.1, eq_self, decide_true, Bool.true_eq_false]
    exact hk
  have eJ : tidyP (xs ++ ys) = ofP (setP xs ++ setP ys) := by
    have ok : ∀ {b : Int} {zs : Sp}, Good b zs → ∀ q ∈ zs, q.1 ≤ q.2 := by
      intro b zs
      induction zs generalizing b with
      | nil => intro _ q h; simp at h
      | cons w ws ih =>
        rintro ⟨h1, h2, h3⟩ q h
        rcases List.mem_cons.mp h with rfl | h
        · exact h2
        · exact ih h3 q h
    obtain ⟨⟨b, g1⟩, g2⟩ := tidy_good (xs := xs ++ ys) fun q h => (List.mem_append.mp h).elim (ok fx.1 q) (ok fy.1 q)
    exact of_eq g1 fun t => by rw [g2, In_app, List.mem_append, mS, mT]
  have eW : (meetP xs ys = xs) = ((((setP xs).filter fun v => !decide (v ∈ setP ys)).length : Int) = 0) := by
    refine propext ?_
    have z : ((((setP xs).filter fun v => !decide (v ∈ setP ys)).length : Int) = 0) ↔ ∀ t, In xs t → In ys t := by
      rw [show ((((setP xs).filter fun v => !decide (v ∈ setP ys)).length : Int) = 0) ↔ ((setP xs).filter fun v => !decide (v ∈ setP ys)) = [] from by rw [← List.length_eq_zero_iff]; omega, List.filter_eq_nil_iff]
      constructor
      · intro h t ht
        have := h t ((mS t).mpr ht)
        simp at this
        exact (mT t).mp this
      · intro h t ht
        have := (mT t).mpr (h t ((mS t).mp ht))
        simp [this]
    rw [z]
    constructor
    · intro e t ht
      rw [← e] at ht
      exact ((gM.2 t).mp ht).2
    · intro h
      exact Good.uniq gM.1 fx.1 fun t => by rw [gM.2]; exact ⟨fun z => z.1, fun z => ⟨z, h t z⟩⟩
  refine step (L ns (some (stt ns p5 v5)) (some (spD .o xs)) (some (spD .o ys)) (some (miD .o (setP xs))) (some (miD .o (setP ys))) a6 (some (miD .o C)) (some (spD .o (meetP xs ys))) none none none none none none none) (fun k Q hk => ?_) ?_
  · have ej := ok_join sh_l sh_l xs ys (by omega)
    have eo := ok_of (m := .f) sh_f (setP xs ++ setP ys) (by simp; omega)
    have ew := ok_within RO.l RO.l xs ys (by have := Nat.mul_le_mul lx ly; omega)
    have ea := add_i (setP xs) (setP ys) (by omega)
    simp only [L, e_cst, e_nil, e_yes, e_var, e_fv, e_mv, e_cons, e_dfr, e_op, e_tup, e_lst, e_tr, e_notT, e_andT, e_orT, e_andV, e_orV, e_notV, e_opq, e_if, e_call, e_callM, e_chain, e_src, e_rng, e_lc, g_nx, g_retN, g_brk, g_cnt, g_seq, g_drop, g_ret, g_asg, g_if, g_for, g_app, g_set, kk_ok, kS_ok, kQ_nx, kQ_rt, kQ_bk, kQ_ct, has_some, sl_0, sl_s, st_0, st_s, v_add, v_sub, v_neg, v_lt, v_le, v_gt, v_ge, v_eqi, v_nei, v_is, v_isNot, v_len, v_lenT, v_abs, v_int, v_item, v_itemT, v_list, v_max, v_min, v_repr, blD_bl, truD_bl, truD_lst, isF_int, isF_bl, isF_non, isF_tup, isF_str, isF_lf, isF_lk, isF_lo, isF_ll, at_0, at_1, at_2, ix_0, ix_1, ix_2, cap_i, cap_t, noL_i, noL_n, noL_b, noL_t, ck_0, ck_s, lk_0, lk_1, lk_2, lk_3, lk_4, ln_0, ln_1, ln_2, ln_3, ln_4, own_o, own_l, own_f, its_o, its_l, its_f, lend_o, lend_i, lend_b, lend_n, lend_s, lend_t, cap_k, cap_f, lend_l, lend_f, sh_o, sh_l, sh_f, sh_k, Bool.or_true, Bool.true_or, Bool.or_false, Bool.false_or, intD, isLst, lstO, List.set_cons_zero, List.set_cons_succ, bind_S, forL_0, kL_nx, kL_ct, kL_bk, kL_rt, tg_n, tg_t, tg_0, tg_s, wp_0, wp_s, bk_0, bk_s, rd_0, rd_s, sb_a, sb_l, si_a, si_l, hd_0, out_t, out_f, argD, ite_self, List.map_cons, List.map_nil, List.append_nil, List.cons_append, List.nil_append, Bool.and_true, Bool.true_and, Bool.not_true, Bool.not_false, Bool.and_false, Bool.false_and, true_and, and_true, decide_eq_true_eq, Bool.false_eq_true, if_false, if_true, ite_true, ite_false, reduceIte, Bool.not_eq_true', ej, ea, cap_o, eo, ne_p, eJ, eq_self, decide_true, Bool.true_eq_false, ew]
    refine has_cmpF (fun v => !decide (v ∈ setP ys)) (fun v : Int => v) .int cap_i' (setP xs) (by omega) (fun v _ => ?_) ?_
    · have ci := v_notIn (f := D.int) (m := .o) (a := v) (xs := setP ys) eqD_i (fun _ => by simp [dp]) (fun _ h => by cases h)
      simp only [ct_law_5, ce_law_6, e_cst, e_nil, e_yes, e_var, e_fv, e_mv, e_cons, e_dfr, e_op, e_tup, e_lst, e_tr, e_notT, e_andT, e_orT, e_andV, e_orV, e_notV, e_opq, e_if, e_call, e_callM, e_chain, e_src, e_rng, e_lc, g_nx, g_retN, g_brk, g_cnt, g_seq, g_drop, g_ret, g_asg, g_if, g_for, g_app, g_set, kk_ok, kS_ok, kQ_nx, kQ_rt, kQ_bk, kQ_ct, has_some, sl_0, sl_s, st_0, st_s, v_add, v_sub, v_neg, v_lt, v_le, v_gt, v_ge, v_eqi, v_nei, v_is, v_isNot, v_len, v_lenT, v_abs, v_int, v_item, v_itemT, v_list, v_max, v_min, v_repr, blD_bl, truD_bl, truD_lst, isF_int, isF_bl, isF_non, isF_tup, isF_str, isF_lf, isF_lk, isF_lo, isF_ll, at_0, at_1, at_2, ix_0, ix_1, ix_2, cap_i, cap_t, noL_i, noL_n, noL_b, noL_t, ck_0, ck_s, lk_0, lk_1, lk_2, lk_3, lk_4, ln_0, ln_1, ln_2, ln_3, ln_4, own_o, own_l, own_f, its_o, its_l, its_f, lend_o, lend_i, lend_b, lend_n, lend_s, lend_t, cap_k, cap_f, lend_l, lend_f, sh_o, sh_l, sh_f, sh_k, Bool.or_true, Bool.true_or, Bool.or_false, Bool.false_or, intD, isLst, lstO, List.set_cons_zero, List.set_cons_succ, bind_S, forL_0, kL_nx, kL_ct, kL_bk, kL_rt, tg_n, tg_t, tg_0, tg_s, wp_0, wp_s, bk_0, bk_s, rd_0, rd_s, sb_a, sb_l, si_a, si_l, hd_0, out_t, out_f, argD, ite_self, List.map_cons, List.map_nil, List.append_nil, List.cons_append, List.nil_append, Bool.and_true, Bool.true_and, Bool.not_true, Bool.not_false, Bool.and_false, Bool.false_and, true_and, and_true, decide_eq_true_eq, Bool.false_eq_true, if_false, if_true, ite_true, ite_false, reduceIte, Bool.not_eq_true', ci]
      try (by_cases h : v ∈ setP ys <;> simp [h, e_cst, e_nil, e_yes, e_var, e_fv, e_mv, e_cons, e_dfr, e_op, e_tup, e_lst, e_tr, e_notT, e_andT, e_orT, e_andV, e_orV, e_notV, e_opq, e_if, e_call, e_callM, e_chain, e_src, e_rng, e_lc, g_nx, g_retN, g_brk, g_cnt, g_seq, g_drop, g_ret, g_asg, g_if, g_for, g_app, g_set, kk_ok, kS_ok, kQ_nx, kQ_rt, kQ_bk, kQ_ct, has_some, sl_0, sl_s, st_0, st_s, v_add, v_sub, v_neg, v_lt, v_le, v_gt, v_ge, v_eqi, v_nei, v_is, v_isNot, v_len, v_lenT, v_abs, v_int, v_item, v_itemT, v_list, v_max, v_min, v_repr, blD_bl, truD_bl, truD_lst, isF_int, isF_bl, isF_non, isF_tup, isF_str, isF_lf, isF_lk, isF_lo, isF_ll, at_0, at_1, at_2, ix_0, ix_1, ix_2, cap_i, cap_t, noL_i, noL_n, noL_b, noL_t, ck_0, ck_s, lk_0, lk_1, lk_2, lk_3, lk_4, ln_0, ln_1, ln_2, ln_3, ln_4, own_o, own_l, own_f, its_o, its_l, its_f, lend_o, lend_i, lend_b, lend_n, lend_s, lend_t, cap_k, cap_f, lend_l, lend_f, sh_o, sh_l, sh_f, sh_k, Bool.or_true, Bool.true_or, Bool.or_false, Bool.false_or, intD, isLst, lstO, List.set_cons_zero, List.set_cons_succ, bind_S, forL_0, kL_nx, kL_ct, kL_bk, kL_rt, tg_n, tg_t, tg_0, tg_s, wp_0, wp_s, bk_0, bk_s, rd_0, rd_s, sb_a, sb_l, si_a, si_l, hd_0, out_t, out_f, argD, ite_self, List.map_cons, List.map_nil, List.append_nil, List.cons_append, List.nil_append, Bool.and_true, Bool.true_and, Bool.not_true, Bool.not_false, Bool.and_false, Bool.false_and, true_and, and_true, decide_eq_true_eq, Bool.false_eq_true, if_false, if_true, ite_true, ite_false, reduceIte, Bool.not_eq_true'])
    · simp only [e_cst, e_nil, e_yes, e_var, e_fv, e_mv, e_cons, e_dfr, e_op, e_tup, e_lst, e_tr, e_notT, e_andT, e_orT, e_andV, e_orV, e_notV, e_opq, e_if, e_call, e_callM, e_chain, e_src, e_rng, e_lc, g_nx, g_retN, g_brk, g_cnt, g_seq, g_drop, g_ret, g_asg, g_if, g_for, g_app, g_set, kk_ok, kS_ok, kQ_nx, kQ_rt, kQ_bk, kQ_ct, has_some, sl_0, sl_s, st_0, st_s, v_add, v_sub, v_neg, v_lt, v_le, v_gt, v_ge, v_eqi, v_nei, v_is, v_isNot, v_len, v_lenT, v_abs, v_int, v_item, v_itemT, v_list, v_max, v_min, v_repr, blD_bl, truD_bl, truD_lst, isF_int, isF_bl, isF_non, isF_tup, isF_str, isF_lf, isF_lk, isF_lo, isF_ll, at_0, at_1, at_2, ix_0, ix_1, ix_2, cap_i, cap_t, noL_i, noL_n, noL_b, noL_t, ck_0, ck_s, lk_0, lk_1, lk_2, lk_3, lk_4, ln_0, ln_1, ln_2, ln_3, ln_4, own_o, own_l, own_f, its_o, its_l, its_f, lend_o, lend_i, lend_b, lend_n, lend_s, lend_t, cap_k, cap_f, lend_l, lend_f, sh_o, sh_l, sh_f, sh_k, Bool.or_true, Bool.true_or, Bool.or_false, Bool.false_or, intD, isLst, lstO, List.set_cons_zero, List.set_cons_succ, bind_S, forL_0, kL_nx, kL_ct, kL_bk, kL_rt, tg_n, tg_t, tg_0, tg_s, wp_0, wp_s, bk_0, bk_s, rd_0, rd_s, sb_a, sb_l, si_a, si_l, hd_0, out_t, out_f, argD, ite_self, List.map_cons, List.map_nil, List.append_nil, List.cons_append, List.nil_append, Bool.and_true, Bool.true_and, Bool.not_true, Bool.not_false, Bool.and_false, Bool.false_and, true_and, and_true, decide_eq_true_eq, Bool.false_eq_true, if_false, if_true, ite_true, ite_false, reduceIte, Bool.not_eq_true', List.map_id', List.length_map, eW, ne_str]
      exact hk
  -- turned
  obtain ⟨lo, p6, v6, l1, l2, hv6, e6⟩ := take_ok ns p5 v5 30 hv5 (by omega) (by omega)
  refine step (L ns (some (stt ns p6 v6)) (some (spD .o xs)) (some (spD .o ys)) (some (miD .o (setP xs))) (some (miD .o (setP ys))) a6 (some (miD .o C)) (some (spD .o (meetP xs ys))) (some (.int lo)) none none none none none none) (fun k Q hk => ?_) ?_
  · simp only [L, e_cst, e_nil, e_yes, e_var, e_fv, e_mv, e_cons, e_dfr, e_op, e_tup, e_lst, e_tr, e_notT, e_andT, e_orT, e_andV, e_orV, e_notV, e_opq, e_if, e_call, e_callM, e_chain, e_src, e_rng, e_lc, g_nx, g_retN, g_brk, g_cnt, g_seq, g_drop, g_ret, g_asg, g_if, g_for, g_app, g_set, kk_ok, kS_ok, kQ_nx, kQ_rt, kQ_bk, kQ_ct, has_some, sl_0, sl_s, st_0, st_s, v_add, v_sub, v_neg, v_lt, v_le, v_gt, v_ge, v_eqi, v_nei, v_is, v_isNot, v_len, v_lenT, v_abs, v_int, v_item, v_itemT, v_list, v_max, v_min, v_repr, blD_bl, truD_bl, truD_lst, isF_int, isF_bl, isF_non, isF_tup, isF_str, isF_lf, isF_lk, isF_lo, isF_ll, at_0, at_1, at_2, ix_0, ix_1, ix_2, cap_i, cap_t, noL_i, noL_n, noL_b, noL_t, ck_0, ck_s, lk_0, lk_1, lk_2, lk_3, lk_4, ln_0, ln_1, ln_2, ln_3, ln_4, own_o, own_l, own_f, its_o, its_l, its_f, lend_o, lend_i, lend_b, lend_n, lend_s, lend_t, cap_k, cap_f, lend_l, lend_f, sh_o, sh_l, sh_f, sh_k, Bool.or_true, Bool.true_or, Bool.or_false, Bool.false_or, intD, isLst, lstO, List.set_cons_zero, List.set_cons_succ, bind_S, forL_0, kL_nx, kL_ct, kL_bk, kL_rt, tg_n, tg_t, tg_0, tg_s, wp_0, wp_s, bk_0, bk_s, rd_0, rd_s, sb_a, sb_l, si_a, si_l, hd_0, out_t, out_f, argD, ite_self, List.map_cons, List.map_nil, List.append_nil, List.cons_append, List.nil_append, Bool.and_true, Bool.true_and, Bool.not_true, Bool.not_false, Bool.and_false, Bool.false_and, true_and, and_true, decide_eq_true_eq, Bool.false_eq_true, if_false, if_true, ite_true, ite_false, reduceIte, Bool.not_eq_true', e6]; exact hk
  obtain ⟨d7, p7, v7, l3, l4, hv7, e7⟩ := take_ok ns p6 v6 30 hv6 (by omega) (by omega)
  refine step (L ns (some (stt ns p7 v7)) (some (spD .o xs)) (some (spD .o ys)) (some (miD .o (setP xs))) (some (miD .o (setP ys))) a6 (some (miD .o C)) (some (spD .o (meetP xs ys))) (some (.int lo)) (some (.int (lo + d7))) none none none none none) (fun k Q hk => ?_) ?_
  · simp only [L, e_cst, e_nil, e_yes, e_var, e_fv, e_mv, e_cons, e_dfr, e_op, e_tup, e_lst, e_tr, e_notT, e_andT, e_orT, e_andV, e_orV, e_notV, e_opq, e_if, e_call, e_callM, e_chain, e_src, e_rng, e_lc, g_nx, g_retN, g_brk, g_cnt, g_seq, g_drop, g_ret, g_asg, g_if, g_for, g_app, g_set, kk_ok, kS_ok, kQ_nx, kQ_rt, kQ_bk, kQ_ct, has_some, sl_0, sl_s, st_0, st_s, v_add, v_sub, v_neg, v_lt, v_le, v_gt, v_ge, v_eqi, v_nei, v_is, v_isNot, v_len, v_lenT, v_abs, v_int, v_item, v_itemT, v_list, v_max, v_min, v_repr, blD_bl, truD_bl, truD_lst, isF_int, isF_bl, isF_non, isF_tup, isF_str, isF_lf, isF_lk, isF_lo, isF_ll, at_0, at_1, at_2, ix_0, ix_1, ix_2, cap_i, cap_t, noL_i, noL_n, noL_b, noL_t, ck_0, ck_s, lk_0, lk_1, lk_2, lk_3, lk_4, ln_0, ln_1, ln_2, ln_3, ln_4, own_o, own_l, own_f, its_o, its_l, its_f, lend_o, lend_i, lend_b, lend_n, lend_s, lend_t, cap_k, cap_f, lend_l, lend_f, sh_o, sh_l, sh_f, sh_k, Bool.or_true, Bool.true_or, Bool.or_false, Bool.false_or, intD, isLst, lstO, List.set_cons_zero, List.set_cons_succ, bind_S, forL_0, kL_nx, kL_ct, kL_bk, kL_rt, tg_n, tg_t, tg_0, tg_s, wp_0, wp_s, bk_0, bk_s, rd_0, rd_s, sb_a, sb_l, si_a, si_l, hd_0, out_t, out_f, argD, ite_self, List.map_cons, List.map_nil, List.append_nil, List.cons_append, List.nil_append, Bool.and_true, Bool.true_and, Bool.not_true, Bool.not_false, Bool.and_false, Bool.false_and, true_and, and_true, decide_eq_true_eq, Bool.false_eq_true, if_false, if_true, ite_true, ite_false, reduceIte, Bool.not_eq_true', e7]; exact hk
  obtain ⟨hi, hhi⟩ : ∃ hi, hi = lo + d7 := ⟨_, rfl⟩
  rw [← hhi]
  have eT : turnP xs lo hi = ofP ((mins lo (hi + 1 - lo).toNat).filter fun v => !decide (v ∈ setP xs)) := by
    obtain ⟨g1, g2⟩ := turn_good (h := hi) lo fx.1
    unfold turnP
    refine of_eq g1 fun t => ?_
    rw [g2, List.mem_filter, mem_mins, Bool.not_eq_true', decide_eq_false_iff_not, mS]
    constructor
    · rintro ⟨z1, z2⟩; exact ⟨by omega, z2⟩
    · rintro ⟨z1, z2⟩; exact ⟨by omega, z2⟩
  refine step (L ns (some (stt ns p7 v7)) (some (spD .o xs)) (some (spD .o ys)) (some (miD .o (setP xs))) (some (miD .o (setP ys))) a6 (some (miD .o C)) (some (spD .o (meetP xs ys))) (some (.int lo)) (some (.int hi)) none none none none none) (fun k Q hk => ?_) ?_
  · have et := ok_turned RO.l xs lo hi (by omega)
    simp only [L, e_cst, e_nil, e_yes, e_var, e_fv, e_mv, e_cons, e_dfr, e_op, e_tup, e_lst, e_tr, e_notT, e_andT, e_orT, e_andV, e_orV, e_notV, e_opq, e_if, e_call, e_callM, e_chain, e_src, e_rng, e_lc, g_nx, g_retN, g_brk, g_cnt, g_seq, g_drop, g_ret, g_asg, g_if, g_for, g_app, g_set, kk_ok, kS_ok, kQ_nx, kQ_rt, kQ_bk, kQ_ct, has_some, sl_0, sl_s, st_0, st_s, v_add, v_sub, v_neg, v_lt, v_le, v_gt, v_ge, v_eqi, v_nei, v_is, v_isNot, v_len, v_lenT, v_abs, v_int, v_item, v_itemT, v_list, v_max, v_min, v_repr, blD_bl, truD_bl, truD_lst, isF_int, isF_bl, isF_non, isF_tup, isF_str, isF_lf, isF_lk, isF_lo, isF_ll, at_0, at_1, at_2, ix_0, ix_1, ix_2, cap_i, cap_t, noL_i, noL_n, noL_b, noL_t, ck_0, ck_s, lk_0, lk_1, lk_2, lk_3, lk_4, ln_0, ln_1, ln_2, ln_3, ln_4, own_o, own_l, own_f, its_o, its_l, its_f, lend_o, lend_i, lend_b, lend_n, lend_s, lend_t, cap_k, cap_f, lend_l, lend_f, sh_o, sh_l, sh_f, sh_k, Bool.or_true, Bool.true_or, Bool.or_false, Bool.false_or, intD, isLst, lstO, List.set_cons_zero, List.set_cons_succ, bind_S, forL_0, kL_nx, kL_ct, kL_bk, kL_rt, tg_n, tg_t, tg_0, tg_s, wp_0, wp_s, bk_0, bk_s, rd_0, rd_s, sb_a, sb_l, si_a, si_l, hd_0, out_t, out_f, argD, ite_self, List.map_cons, List.map_nil, List.append_nil, List.cons_append, List.nil_append, Bool.and_true, Bool.true_and, Bool.not_true, Bool.not_false, Bool.and_false, Bool.false_and, true_and, and_true, decide_eq_true_eq, Bool.false_eq_true, if_false, if_true, ite_true, ite_false, reduceIte, Bool.not_eq_true', et, rng2_i lo (hi + 1) ⟨by omega, by omega, by omega, by omega⟩]
    refine has_cmpF (fun v => !decide (v ∈ setP xs)) (fun v : Int => v) .int cap_i' (mins lo (hi + 1 - lo).toNat) (by rw [mins_len]; omega) (fun v _ => ?_) ?_
    · have ci := v_notIn (f := D.int) (m := .o) (a := v) (xs := setP xs) eqD_i (fun _ => by simp [dp]) (fun _ h => by cases h)
      simp only [ct_law_7, ce_law_8, e_cst, e_nil, e_yes, e_var, e_fv, e_mv, e_cons, e_dfr, e_op, e_tup, e_lst, e_tr, e_notT, e_andT, e_orT, e_andV, e_orV, e_notV, e_opq, e_if, e_call, e_callM, e_chain, e_src, e_rng, e_lc, g_nx, g_retN, g_brk, g_cnt, g_seq, g_drop, g_ret, g_asg, g_if, g_for, g_app, g_set, kk_ok, kS_ok, kQ_nx, kQ_rt, kQ_bk, kQ_ct, has_some, sl_0, sl_s, st_0, st_s, v_add, v_sub, v_neg, v_lt, v_le, v_gt, v_ge, v_eqi, v_nei, v_is, v_isNot, v_len, v_lenT, v_abs, v_int, v_item, v_itemT, v_list, v_max, v_min, v_repr, blD_bl, truD_bl, truD_lst, isF_int, isF_bl, isF_non, isF_tup, isF_str, isF_lf, isF_lk, isF_lo, isF_ll, at_0, at_1, at_2, ix_0, ix_1, ix_2, cap_i, cap_t, noL_i, noL_n, noL_b, noL_t, ck_0, ck_s, lk_0, lk_1, lk_2, lk_3, lk_4, ln_0, ln_1, ln_2, ln_3, ln_4, own_o, own_l, own_f, its_o, its_l, its_f, lend_o, lend_i, lend_b, lend_n, lend_s, lend_t, cap_k, cap_f, lend_l, lend_f, sh_o, sh_l, sh_f, sh_k, Bool.or_true, Bool.true_or, Bool.or_false, Bool.false_or, intD, isLst, lstO, List.set_cons_zero, List.set_cons_succ, bind_S, forL_0, kL_nx, kL_ct, kL_bk, kL_rt, tg_n, tg_t, tg_0, tg_s, wp_0, wp_s, bk_0, bk_s, rd_0, rd_s, sb_a, sb_l, si_a, si_l, hd_0, out_t, out_f, argD, ite_self, List.map_cons, List.map_nil, List.append_nil, List.cons_append, List.nil_append, Bool.and_true, Bool.true_and, Bool.not_true, Bool.not_false, Bool.and_false, Bool.false_and, true_and, and_true, decide_eq_true_eq, Bool.false_eq_true, if_false, if_true, ite_true, ite_false, reduceIte, Bool.not_eq_true', ci]
      try (by_cases h : v ∈ setP xs <;> simp [h, e_cst, e_nil, e_yes, e_var, e_fv, e_mv, e_cons, e_dfr, e_op, e_tup, e_lst, e_tr, e_notT, e_andT, e_orT, e_andV, e_orV, e_notV, e_opq, e_if, e_call, e_callM, e_chain, e_src, e_rng, e_lc, g_nx, g_retN, g_brk, g_cnt, g_seq, g_drop, g_ret, g_asg, g_if, g_for, g_app, g_set, kk_ok, kS_ok, kQ_nx, kQ_rt, kQ_bk, kQ_ct, has_some, sl_0, sl_s, st_0, st_s, v_add, v_sub, v_neg, v_lt, v_le, v_gt, v_ge, v_eqi, v_nei, v_is, v_isNot, v_len, v_lenT, v_abs, v_int, v_item, v_itemT, v_list, v_max, v_min, v_repr, blD_bl, truD_bl, truD_lst, isF_int, isF_bl, isF_non, isF_tup, isF_str, isF_lf, isF_lk, isF_lo, isF_ll, at_0, at_1, at_2, ix_0, ix_1, ix_2, cap_i, cap_t, noL_i, noL_n, noL_b, noL_t, ck_0, ck_s, lk_0, lk_1, lk_2, lk_3, lk_4, ln_0, ln_1, ln_2, ln_3, ln_4, own_o, own_l, own_f, its_o, its_l, its_f, lend_o, lend_i, lend_b, lend_n, lend_s, lend_t, cap_k, cap_f, lend_l, lend_f, sh_o, sh_l, sh_f, sh_k, Bool.or_true, Bool.true_or, Bool.or_false, Bool.false_or, intD, isLst, lstO, List.set_cons_zero, List.set_cons_succ, bind_S, forL_0, kL_nx, kL_ct, kL_bk, kL_rt, tg_n, tg_t, tg_0, tg_s, wp_0, wp_s, bk_0, bk_s, rd_0, rd_s, sb_a, sb_l, si_a, si_l, hd_0, out_t, out_f, argD, ite_self, List.map_cons, List.map_nil, List.append_nil, List.cons_append, List.nil_append, Bool.and_true, Bool.true_and, Bool.not_true, Bool.not_false, Bool.and_false, Bool.false_and, true_and, and_true, decide_eq_true_eq, Bool.false_eq_true, if_false, if_true, ite_true, ite_false, reduceIte, Bool.not_eq_true'])
    · have eo := ok_of (m := .f) sh_f ((mins lo (hi + 1 - lo).toNat).filter fun v => !decide (v ∈ setP xs)) (by
        have := List.length_filter_le (fun v => !decide (v ∈ setP xs)) (mins lo (hi + 1 - lo).toNat)
        rw [mins_len] at this; omega)
      simp only [e_cst, e_nil, e_yes, e_var, e_fv, e_mv, e_cons, e_dfr, e_op, e_tup, e_lst, e_tr, e_notT, e_andT, e_orT, e_andV, e_orV, e_notV, e_opq, e_if, e_call, e_callM, e_chain, e_src, e_rng, e_lc, g_nx, g_retN, g_brk, g_cnt, g_seq, g_drop, g_ret, g_asg, g_if, g_for, g_app, g_set, kk_ok, kS_ok, kQ_nx, kQ_rt, kQ_bk, kQ_ct, has_some, sl_0, sl_s, st_0, st_s, v_add, v_sub, v_neg, v_lt, v_le, v_gt, v_ge, v_eqi, v_nei, v_is, v_isNot, v_len, v_lenT, v_abs, v_int, v_item, v_itemT, v_list, v_max, v_min, v_repr, blD_bl, truD_bl, truD_lst, isF_int, isF_bl, isF_non, isF_tup, isF_str, isF_lf, isF_lk, isF_lo, isF_ll, at_0, at_1, at_2, ix_0, ix_1, ix_2, cap_i, cap_t, noL_i, noL_n, noL_b, noL_t, ck_0, ck_s, lk_0, lk_1, lk_2, lk_3, lk_4, ln_0, ln_1, ln_2, ln_3, ln_4, own_o, own_l, own_f, its_o, its_l, its_f, lend_o, lend_i, lend_b, lend_n, lend_s, lend_t, cap_k, cap_f, lend_l, lend_f, sh_o, sh_l, sh_f, sh_k, Bool.or_true, Bool.true_or, Bool.or_false, Bool.false_or, intD, isLst, lstO, List.set_cons_zero, List.set_cons_succ, bind_S, forL_0, kL_nx, kL_ct, kL_bk, kL_rt, tg_n, tg_t, tg_0, tg_s, wp_0, wp_s, bk_0, bk_s, rd_0, rd_s, sb_a, sb_l, si_a, si_l, hd_0, out_t, out_f, argD, ite_self, List.map_cons, List.map_nil, List.append_nil, List.cons_append, List.nil_append, Bool.and_true, Bool.true_and, Bool.not_true, Bool.not_false, Bool.and_false, Bool.false_and, true_and, and_true, decide_eq_true_eq, Bool.false_eq_true, if_false, if_true, ite_true, ite_false, reduceIte, Bool.not_eq_true', List.map_id', cap_o, eo, ne_p, eT, eq_self, decide_true, Bool.true_eq_false]
      exact hk
  -- shifted
  obtain ⟨m8, p8, v8, l5, l6, hv8, e8⟩ := take_ok ns p7 v7 50 hv7 (by omega) (by omega)
  obtain ⟨mv, hmv⟩ : ∃ mv, mv = m8 - 25 := ⟨_, rfl⟩
  refine step (L ns (some (stt ns p8 v8)) (some (spD .o xs)) (some (spD .o ys)) (some (miD .o (setP xs))) (some (miD .o (setP ys))) a6 (some (miD .o C)) (some (spD .o (meetP xs ys))) (some (.int lo)) (some (.int hi)) (some (.int mv)) none none none none) (fun k Q hk => ?_) ?_
  · simp only [L, e_cst, e_nil, e_yes, e_var, e_fv, e_mv, e_cons, e_dfr, e_op, e_tup, e_lst, e_tr, e_notT, e_andT, e_orT, e_andV, e_orV, e_notV, e_opq, e_if, e_call, e_callM, e_chain, e_src, e_rng, e_lc, g_nx, g_retN, g_brk, g_cnt, g_seq, g_drop, g_ret, g_asg, g_if, g_for, g_app, g_set, kk_ok, kS_ok, kQ_nx, kQ_rt, kQ_bk, kQ_ct, has_some, sl_0, sl_s, st_0, st_s, v_add, v_sub, v_neg, v_lt, v_le, v_gt, v_ge, v_eqi, v_nei, v_is, v_isNot, v_len, v_lenT, v_abs, v_int, v_item, v_itemT, v_list, v_max, v_min, v_repr, blD_bl, truD_bl, truD_lst, isF_int, isF_bl, isF_non, isF_tup, isF_str, isF_lf, isF_lk, isF_lo, isF_ll, at_0, at_1, at_2, ix_0, ix_1, ix_2, cap_i, cap_t, noL_i, noL_n, noL_b, noL_t, ck_0, ck_s, lk_0, lk_1, lk_2, lk_3, lk_4, ln_0, ln_1, ln_2, ln_3, ln_4, own_o, own_l, own_f, its_o, its_l, its_f, lend_o, lend_i, lend_b, lend_n, lend_s, lend_t, cap_k, cap_f, lend_l, lend_f, sh_o, sh_l, sh_f, sh_k, Bool.or_true, Bool.true_or, Bool.or_false, Bool.false_or, intD, isLst, lstO, List.set_cons_zero, List.set_cons_succ, bind_S, forL_0, kL_nx, kL_ct, kL_bk, kL_rt, tg_n, tg_t, tg_0, tg_s, wp_0, wp_s, bk_0, bk_s, rd_0, rd_s, sb_a, sb_l, si_a, si_l, hd_0, out_t, out_f, argD, ite_self, List.map_cons, List.map_nil, List.append_nil, List.cons_append, List.nil_append, Bool.and_true, Bool.true_and, Bool.not_true, Bool.not_false, Bool.and_false, Bool.false_and, true_and, and_true, decide_eq_true_eq, Bool.false_eq_true, if_false, if_true, ite_true, ite_false, reduceIte, Bool.not_eq_true', e8, ← hmv]; exact hk
  have gSh := shift_good mv fx.1
  have gLH : Good lo [(lo, hi)] := ⟨Int.le_refl _, by simp only; omega, trivial⟩
  have gMS := meet_good gLH gSh.1
  have eS : ofP (setP (meetP (shiftP xs mv) [(lo, hi)])) = ofP (((setP xs).filter fun v => decide (lo ≤ v + mv) && decide (v + mv ≤ hi)).map fun v => v + mv) := by
    obtain ⟨⟨b, g1⟩, g2⟩ := of_good (setP (meetP (shiftP xs mv) [(lo, hi)]))
    refine of_eq g1 fun t => ?_
    rw [g2, mem_set, gMS.2, gSh.2, List.mem_map, In_cons]
    unfold on
    simp only [List.mem_filter, Bool.and_eq_true, decide_eq_true_eq, mS]
    constructor
    · rintro ⟨z1, z2, z3 | z3⟩
      · exact ⟨t - mv, ⟨z2, by omega⟩, by omega⟩
      · exact (In_nil z3).elim
    · rintro ⟨v, ⟨z1, z2⟩, rfl⟩
      have := fx.2 v z1
      have ev : v + mv - mv = v := by omega
      rw [ev]
      exact ⟨by omega, z1, .inl (by omega)⟩
  refine step (L ns (some (stt ns p8 v8)) (some (spD .o xs)) (some (spD .o ys)) (some (miD .o (setP xs))) (some (miD .o (setP ys))) a6 (some (miD .o C)) (some (spD .o (meetP xs ys))) (some (.int lo)) (some (.int hi)) (some (.int mv)) none none none none) (fun k Q hk => ?_) ?_
  · have es := ok_shifted RO.l xs mv lo hi (by omega)
    have lms := meetP_len (shiftP xs mv) [(lo, hi)]
    have lsh : (shiftP xs mv).length = xs.length := by simp [shiftP]
    rw [lsh] at lms
    have est := ok_set RO.f (meetP (shiftP xs mv) [(lo, hi)]) (by simp at lms; omega)
    have eo := ok_of (m := .f) sh_f (setP (meetP (shiftP xs mv) [(lo, hi)])) (by have := set_len (meetP (shiftP xs mv) [(lo, hi)]); omega)
    simp only [L, e_cst, e_nil, e_yes, e_var, e_fv, e_mv, e_cons, e_dfr, e_op, e_tup, e_lst, e_tr, e_notT, e_andT, e_orT, e_andV, e_orV, e_notV, e_opq, e_if, e_call, e_callM, e_chain, e_src, e_rng, e_lc, g_nx, g_retN, g_brk, g_cnt, g_seq, g_drop, g_ret, g_asg, g_if, g_for, g_app, g_set, kk_ok, kS_ok, kQ_nx, kQ_rt, kQ_bk, kQ_ct, has_some, sl_0, sl_s, st_0, st_s, v_add, v_sub, v_neg, v_lt, v_le, v_gt, v_ge, v_eqi, v_nei, v_is, v_isNot, v_len, v_lenT, v_abs, v_int, v_item, v_itemT, v_list, v_max, v_min, v_repr, blD_bl, truD_bl, truD_lst, isF_int, isF_bl, isF_non, isF_tup, isF_str, isF_lf, isF_lk, isF_lo, isF_ll, at_0, at_1, at_2, ix_0, ix_1, ix_2, cap_i, cap_t, noL_i, noL_n, noL_b, noL_t, ck_0, ck_s, lk_0, lk_1, lk_2, lk_3, lk_4, ln_0, ln_1, ln_2, ln_3, ln_4, own_o, own_l, own_f, its_o, its_l, its_f, lend_o, lend_i, lend_b, lend_n, lend_s, lend_t, cap_k, cap_f, lend_l, lend_f, sh_o, sh_l, sh_f, sh_k, Bool.or_true, Bool.true_or, Bool.or_false, Bool.false_or, intD, isLst, lstO, List.set_cons_zero, List.set_cons_succ, bind_S, forL_0, kL_nx, kL_ct, kL_bk, kL_rt, tg_n, tg_t, tg_0, tg_s, wp_0, wp_s, bk_0, bk_s, rd_0, rd_s, sb_a, sb_l, si_a, si_l, hd_0, out_t, out_f, argD, ite_self, List.map_cons, List.map_nil, List.append_nil, List.cons_append, List.nil_append, Bool.and_true, Bool.true_and, Bool.not_true, Bool.not_false, Bool.and_false, Bool.false_and, true_and, and_true, decide_eq_true_eq, Bool.false_eq_true, if_false, if_true, ite_true, ite_false, reduceIte, Bool.not_eq_true', es, cap_o, est, eo]
    refine has_cmpF (fun v => decide (lo ≤ v + mv) && decide (v + mv ≤ hi)) (fun v : Int => v + mv) .int cap_i' (setP xs) (by omega) (fun v _ => ?_) ?_
    · simp only [ct_law_9, ce_law_10, e_cst, e_nil, e_yes, e_var, e_fv, e_mv, e_cons, e_dfr, e_op, e_tup, e_lst, e_tr, e_notT, e_andT, e_orT, e_andV, e_orV, e_notV, e_opq, e_if, e_call, e_callM, e_chain, e_src, e_rng, e_lc, g_nx, g_retN, g_brk, g_cnt, g_seq, g_drop, g_ret, g_asg, g_if, g_for, g_app, g_set, kk_ok, kS_ok, kQ_nx, kQ_rt, kQ_bk, kQ_ct, has_some, sl_0, sl_s, st_0, st_s, v_add, v_sub, v_neg, v_lt, v_le, v_gt, v_ge, v_eqi, v_nei, v_is, v_isNot, v_len, v_lenT, v_abs, v_int, v_item, v_itemT, v_list, v_max, v_min, v_repr, blD_bl, truD_bl, truD_lst, isF_int, isF_bl, isF_non, isF_tup, isF_str, isF_lf, isF_lk, isF_lo, isF_ll, at_0, at_1, at_2, ix_0, ix_1, ix_2, cap_i, cap_t, noL_i, noL_n, noL_b, noL_t, ck_0, ck_s, lk_0, lk_1, lk_2, lk_3, lk_4, ln_0, ln_1, ln_2, ln_3, ln_4, own_o, own_l, own_f, its_o, its_l, its_f, lend_o, lend_i, lend_b, lend_n, lend_s, lend_t, cap_k, cap_f, lend_l, lend_f, sh_o, sh_l, sh_f, sh_k, Bool.or_true, Bool.true_or, Bool.or_false, Bool.false_or, intD, isLst, lstO, List.set_cons_zero, List.set_cons_succ, bind_S, forL_0, kL_nx, kL_ct, kL_bk, kL_rt, tg_n, tg_t, tg_0, tg_s, wp_0, wp_s, bk_0, bk_s, rd_0, rd_s, sb_a, sb_l, si_a, si_l, hd_0, out_t, out_f, argD, ite_self, List.map_cons, List.map_nil, List.append_nil, List.cons_append, List.nil_append, Bool.and_true, Bool.true_and, Bool.not_true, Bool.not_false, Bool.and_false, Bool.false_and, true_and, and_true, decide_eq_true_eq, Bool.false_eq_true, if_false, if_true, ite_true, ite_false, reduceIte, Bool.not_eq_true']
      by_cases h1 : lo ≤ v + mv <;> by_cases h2 : v + mv ≤ hi <;> simp [h1, h2, e_cst, e_nil, e_yes, e_var, e_fv, e_mv, e_cons, e_dfr, e_op, e_tup, e_lst, e_tr, e_notT, e_andT, e_orT, e_andV, e_orV, e_notV, e_opq, e_if, e_call, e_callM, e_chain, e_src, e_rng, e_lc, g_nx, g_retN, g_brk, g_cnt, g_seq, g_drop, g_ret, g_asg, g_if, g_for, g_app, g_set, kk_ok, kS_ok, kQ_nx, kQ_rt, kQ_bk, kQ_ct, has_some, sl_0, sl_s, st_0, st_s, v_add, v_sub, v_neg, v_lt, v_le, v_gt, v_ge, v_eqi, v_nei, v_is, v_isNot, v_len, v_lenT, v_abs, v_int, v_item, v_itemT, v_list, v_max, v_min, v_repr, blD_bl, truD_bl, truD_lst, isF_int, isF_bl, isF_non, isF_tup, isF_str, isF_lf, isF_lk, isF_lo, isF_ll, at_0, at_1, at_2, ix_0, ix_1, ix_2, cap_i, cap_t, noL_i, noL_n, noL_b, noL_t, ck_0, ck_s, lk_0, lk_1, lk_2, lk_3, lk_4, ln_0, ln_1, ln_2, ln_3, ln_4, own_o, own_l, own_f, its_o, its_l, its_f, lend_o, lend_i, lend_b, lend_n, lend_s, lend_t, cap_k, cap_f, lend_l, lend_f, sh_o, sh_l, sh_f, sh_k, Bool.or_true, Bool.true_or, Bool.or_false, Bool.false_or, intD, isLst, lstO, List.set_cons_zero, List.set_cons_succ, bind_S, forL_0, kL_nx, kL_ct, kL_bk, kL_rt, tg_n, tg_t, tg_0, tg_s, wp_0, wp_s, bk_0, bk_s, rd_0, rd_s, sb_a, sb_l, si_a, si_l, hd_0, out_t, out_f, argD, ite_self, List.map_cons, List.map_nil, List.append_nil, List.cons_append, List.nil_append, Bool.and_true, Bool.true_and, Bool.not_true, Bool.not_false, Bool.and_false, Bool.false_and, true_and, and_true, decide_eq_true_eq, Bool.false_eq_true, if_false, if_true, ite_true, ite_false, reduceIte, Bool.not_eq_true']
    · have eo2 := ok_of (m := .f) sh_f (((setP xs).filter fun v => decide (lo ≤ v + mv) && decide (v + mv ≤ hi)).map fun v => v + mv) (by
        have := List.length_filter_le (fun v => decide (lo ≤ v + mv) && decide (v + mv ≤ hi)) (setP xs)
        simp; omega)
      simp only [e_cst, e_nil, e_yes, e_var, e_fv, e_mv, e_cons, e_dfr, e_op, e_tup, e_lst, e_tr, e_notT, e_andT, e_orT, e_andV, e_orV, e_notV, e_opq, e_if, e_call, e_callM, e_chain, e_src, e_rng, e_lc, g_nx, g_retN, g_brk, g_cnt, g_seq, g_drop, g_ret, g_asg, g_if, g_for, g_app, g_set, kk_ok, kS_ok, kQ_nx, kQ_rt, kQ_bk, kQ_ct, has_some, sl_0, sl_s, st_0, st_s, v_add, v_sub, v_neg, v_lt, v_le, v_gt, v_ge, v_eqi, v_nei, v_is, v_isNot, v_len, v_lenT, v_abs, v_int, v_item, v_itemT, v_list, v_max, v_min, v_repr, blD_bl, truD_bl, truD_lst, isF_int, isF_bl, isF_non, isF_tup, isF_str, isF_lf, isF_lk, isF_lo, isF_ll, at_0, at_1, at_2, ix_0, ix_1, ix_2, cap_i, cap_t, noL_i, noL_n, noL_b, noL_t, ck_0, ck_s, lk_0, lk_1, lk_2, lk_3, lk_4, ln_0, ln_1, ln_2, ln_3, ln_4, own_o, own_l, own_f, its_o, its_l, its_f, lend_o, lend_i, lend_b, lend_n, lend_s, lend_t, cap_k, cap_f, lend_l, lend_f, sh_o, sh_l, sh_f, sh_k, Bool.or_true, Bool.true_or, Bool.or_false, Bool.false_or, intD, isLst, lstO, List.set_cons_zero, List.set_cons_succ, bind_S, forL_0, kL_nx, kL_ct, kL_bk, kL_rt, tg_n, tg_t, tg_0, tg_s, wp_0, wp_s, bk_0, bk_s, rd_0, rd_s, sb_a, sb_l, si_a, si_l, hd_0, out_t, out_f, argD, ite_self, List.map_cons, List.map_nil, List.append_nil, List.cons_append, List.nil_append, Bool.and_true, Bool.true_and, Bool.not_true, Bool.not_false, Bool.and_false, Bool.false_and, true_and, and_true, decide_eq_true_eq, Bool.false_eq_true, if_false, if_true, ite_true, ite_false, reduceIte, Bool.not_eq_true', cap_o, eo2, ne_p, eS, eq_self, decide_true, Bool.true_eq_false]
      exact hk
  -- shrunk
  obtain ⟨sz, p9, v9, l7, l8, hv9, e9⟩ := take_ok ns p8 v8 9 hv8 (by omega) (by omega)
  refine step (L ns (some (stt ns p9 v9)) (some (spD .o xs)) (some (spD .o ys)) (some (miD .o (setP xs))) (some (miD .o (setP ys))) a6 (some (miD .o C)) (some (spD .o (meetP xs ys))) (some (.int lo)) (some (.int hi)) (some (.int mv)) (some (.int sz)) none none none) (fun k Q hk => ?_) ?_
  · simp only [L, e_cst, e_nil, e_yes, e_var, e_fv, e_mv, e_cons, e_dfr, e_op, e_tup, e_lst, e_tr, e_notT, e_andT, e_orT, e_andV, e_orV, e_notV, e_opq, e_if, e_call, e_callM, e_chain, e_src, e_rng, e_lc, g_nx, g_retN, g_brk, g_cnt, g_seq, g_drop, g_ret, g_asg, g_if, g_for, g_app, g_set, kk_ok, kS_ok, kQ_nx, kQ_rt, kQ_bk, kQ_ct, has_some, sl_0, sl_s, st_0, st_s, v_add, v_sub, v_neg, v_lt, v_le, v_gt, v_ge, v_eqi, v_nei, v_is, v_isNot, v_len, v_lenT, v_abs, v_int, v_item, v_itemT, v_list, v_max, v_min, v_repr, blD_bl, truD_bl, truD_lst, isF_int, isF_bl, isF_non, isF_tup, isF_str, isF_lf, isF_lk, isF_lo, isF_ll, at_0, at_1, at_2, ix_0, ix_1, ix_2, cap_i, cap_t, noL_i, noL_n, noL_b, noL_t, ck_0, ck_s, lk_0, lk_1, lk_2, lk_3, lk_4, ln_0, ln_1, ln_2, ln_3, ln_4, own_o, own_l, own_f, its_o, its_l, its_f, lend_o, lend_i, lend_b, lend_n, lend_s, lend_t, cap_k, cap_f, lend_l, lend_f, sh_o, sh_l, sh_f, sh_k, Bool.or_true, Bool.true_or, Bool.or_false, Bool.false_or, intD, isLst, lstO, List.set_cons_zero, List.set_cons_succ, bind_S, forL_0, kL_nx, kL_ct, kL_bk, kL_rt, tg_n, tg_t, tg_0, tg_s, wp_0, wp_s, bk_0, bk_s, rd_0, rd_s, sb_a, sb_l, si_a, si_l, hd_0, out_t, out_f, argD, ite_self, List.map_cons, List.map_nil, List.append_nil, List.cons_append, List.nil_append, Bool.and_true, Bool.true_and, Bool.not_true, Bool.not_false, Bool.and_false, Bool.false_and, true_and, and_true, decide_eq_true_eq, Bool.false_eq_true, if_false, if_true, ite_true, ite_false, reduceIte, Bool.not_eq_true', e9]; exact hk
  let U := (setP xs).filter fun v => xs.any fun q => decide (q.1 ≤ v) && decide (v + sz ≤ q.2)
  have lU : U.length ≤ 190 := Nat.le_trans (List.length_filter_le _ _) lS
  refine step (L ns (some (stt ns p9 v9)) (some (spD .o xs)) (some (spD .o ys)) (some (miD .o (setP xs))) (some (miD .o (setP ys))) a6 (some (miD .o C)) (some (spD .o (meetP xs ys))) (some (.int lo)) (some (.int hi)) (some (.int mv)) (some (.int sz)) (some (miD .o U)) none none) (fun k Q hk => ?_) ?_
  · simp only [L, e_cst, e_nil, e_yes, e_var, e_fv, e_mv, e_cons, e_dfr, e_op, e_tup, e_lst, e_tr, e_notT, e_andT, e_orT, e_andV, e_orV, e_notV, e_opq, e_if, e_call, e_callM, e_chain, e_src, e_rng, e_lc, g_nx, g_retN, g_brk, g_cnt, g_seq, g_drop, g_ret, g_asg, g_if, g_for, g_app, g_set, kk_ok, kS_ok, kQ_nx, kQ_rt, kQ_bk, kQ_ct, has_some, sl_0, sl_s, st_0, st_s, v_add, v_sub, v_neg, v_lt, v_le, v_gt, v_ge, v_eqi, v_nei, v_is, v_isNot, v_len, v_lenT, v_abs, v_int, v_item, v_itemT, v_list, v_max, v_min, v_repr, blD_bl, truD_bl, truD_lst, isF_int, isF_bl, isF_non, isF_tup, isF_str, isF_lf, isF_lk, isF_lo, isF_ll, at_0, at_1, at_2, ix_0, ix_1, ix_2, cap_i, cap_t, noL_i, noL_n, noL_b, noL_t, ck_0, ck_s, lk_0, lk_1, lk_2, lk_3, lk_4, ln_0, ln_1, ln_2, ln_3, ln_4, own_o, own_l, own_f, its_o, its_l, its_f, lend_o, lend_i, lend_b, lend_n, lend_s, lend_t, cap_k, cap_f, lend_l, lend_f, sh_o, sh_l, sh_f, sh_k, Bool.or_true, Bool.true_or, Bool.or_false, Bool.false_or, intD, isLst, lstO, List.set_cons_zero, List.set_cons_succ, bind_S, forL_0, kL_nx, kL_ct, kL_bk, kL_rt, tg_n, tg_t, tg_0, tg_s, wp_0, wp_s, bk_0, bk_s, rd_0, rd_s, sb_a, sb_l, si_a, si_l, hd_0, out_t, out_f, argD, ite_self, List.map_cons, List.map_nil, List.append_nil, List.cons_append, List.nil_append, Bool.and_true, Bool.true_and, Bool.not_true, Bool.not_false, Bool.and_false, Bool.false_and, true_and, and_true, decide_eq_true_eq, Bool.false_eq_true, if_false, if_true, ite_true, ite_false, reduceIte, Bool.not_eq_true']
    refine has_cmpF (fun v => xs.any fun q => decide (q.1 ≤ v) && decide (v + sz ≤ q.2)) (fun v : Int => v) .int cap_i' (setP xs) (by omega) (fun v _ => ?_) ?_
    · simp only [ct_law_13, ce_law_14, e_cst, e_nil, e_yes, e_var, e_fv, e_mv, e_cons, e_dfr, e_op, e_tup, e_lst, e_tr, e_notT, e_andT, e_orT, e_andV, e_orV, e_notV, e_opq, e_if, e_call, e_callM, e_chain, e_src, e_rng, e_lc, g_nx, g_retN, g_brk, g_cnt, g_seq, g_drop, g_ret, g_asg, g_if, g_for, g_app, g_set, kk_ok, kS_ok, kQ_nx, kQ_rt, kQ_bk, kQ_ct, has_some, sl_0, sl_s, st_0, st_s, v_add, v_sub, v_neg, v_lt, v_le, v_gt, v_ge, v_eqi, v_nei, v_is, v_isNot, v_len, v_lenT, v_abs, v_int, v_item, v_itemT, v_list, v_max, v_min, v_repr, blD_bl, truD_bl, truD_lst, isF_int, isF_bl, isF_non, isF_tup, isF_str, isF_lf, isF_lk, isF_lo, isF_ll, at_0, at_1, at_2, ix_0, ix_1, ix_2, cap_i, cap_t, noL_i, noL_n, noL_b, noL_t, ck_0, ck_s, lk_0, lk_1, lk_2, lk_3, lk_4, ln_0, ln_1, ln_2, ln_3, ln_4, own_o, own_l, own_f, its_o, its_l, its_f, lend_o, lend_i, lend_b, lend_n, lend_s, lend_t, cap_k, cap_f, lend_l, lend_f, sh_o, sh_l, sh_f, sh_k, Bool.or_true, Bool.true_or, Bool.or_false, Bool.false_or, intD, isLst, lstO, List.set_cons_zero, List.set_cons_succ, bind_S, forL_0, kL_nx, kL_ct, kL_bk, kL_rt, tg_n, tg_t, tg_0, tg_s, wp_0, wp_s, bk_0, bk_s, rd_0, rd_s, sb_a, sb_l, si_a, si_l, hd_0, out_t, out_f, argD, ite_self, List.map_cons, List.map_nil, List.append_nil, List.cons_append, List.nil_append, Bool.and_true, Bool.true_and, Bool.not_true, Bool.not_false, Bool.and_false, Bool.false_and, true_and, and_true, decide_eq_true_eq, Bool.false_eq_true, if_false, if_true, ite_true, ite_false, reduceIte, Bool.not_eq_true']
      refine has_cmpF (fun q : Int × Int => decide (q.1 ≤ v) && decide (v + sz ≤ q.2)) (fun q : Int × Int => q) pr cap_pr xs (by omega) (fun q _ => ?_) ?_
      · simp only [pr, ct_law_11, ce_law_12, e_cst, e_nil, e_yes, e_var, e_fv, e_mv, e_cons, e_dfr, e_op, e_tup, e_lst, e_tr, e_notT, e_andT, e_orT, e_andV, e_orV, e_notV, e_opq, e_if, e_call, e_callM, e_chain, e_src, e_rng, e_lc, g_nx, g_retN, g_brk, g_cnt, g_seq, g_drop, g_ret, g_asg, g_if, g_for, g_app, g_set, kk_ok, kS_ok, kQ_nx, kQ_rt, kQ_bk, kQ_ct, has_some, sl_0, sl_s, st_0, st_s, v_add, v_sub, v_neg, v_lt, v_le, v_gt, v_ge, v_eqi, v_nei, v_is, v_isNot, v_len, v_lenT, v_abs, v_int, v_item, v_itemT, v_list, v_max, v_min, v_repr, blD_bl, truD_bl, truD_lst, isF_int, isF_bl, isF_non, isF_tup, isF_str, isF_lf, isF_lk, isF_lo, isF_ll, at_0, at_1, at_2, ix_0, ix_1, ix_2, cap_i, cap_t, noL_i, noL_n, noL_b, noL_t, ck_0, ck_s, lk_0, lk_1, lk_2, lk_3, lk_4, ln_0, ln_1, ln_2, ln_3, ln_4, own_o, own_l, own_f, its_o, its_l, its_f, lend_o, lend_i, lend_b, lend_n, lend_s, lend_t, cap_k, cap_f, lend_l, lend_f, sh_o, sh_l, sh_f, sh_k, Bool.or_true, Bool.true_or, Bool.or_false, Bool.false_or, intD, isLst, lstO, List.set_cons_zero, List.set_cons_succ, bind_S, forL_0, kL_nx, kL_ct, kL_bk, kL_rt, tg_n, tg_t, tg_0, tg_s, wp_0, wp_s, bk_0, bk_s, rd_0, rd_s, sb_a, sb_l, si_a, si_l, hd_0, out_t, out_f, argD, ite_self, List.map_cons, List.map_nil, List.append_nil, List.cons_append, List.nil_append, Bool.and_true, Bool.true_and, Bool.not_true, Bool.not_false, Bool.and_false, Bool.false_and, true_and, and_true, decide_eq_true_eq, Bool.false_eq_true, if_false, if_true, ite_true, ite_false, reduceIte, Bool.not_eq_true']
        by_cases h1 : q.1 ≤ v <;> by_cases h2 : v + sz ≤ q.2 <;> simp [h1, h2, e_cst, e_nil, e_yes, e_var, e_fv, e_mv, e_cons, e_dfr, e_op, e_tup, e_lst, e_tr, e_notT, e_andT, e_orT, e_andV, e_orV, e_notV, e_opq, e_if, e_call, e_callM, e_chain, e_src, e_rng, e_lc, g_nx, g_retN, g_brk, g_cnt, g_seq, g_drop, g_ret, g_asg, g_if, g_for, g_app, g_set, kk_ok, kS_ok, kQ_nx, kQ_rt, kQ_bk, kQ_ct, has_some, sl_0, sl_s, st_0, st_s, v_add, v_sub, v_neg, v_lt, v_le, v_gt, v_ge, v_eqi, v_nei, v_is, v_isNot, v_len, v_lenT, v_abs, v_int, v_item, v_itemT, v_list, v_max, v_min, v_repr, blD_bl, truD_bl, truD_lst, isF_int, isF_bl, isF_non, isF_tup, isF_str, isF_lf, isF_lk, isF_lo, isF_ll, at_0, at_1, at_2, ix_0, ix_1, ix_2, cap_i, cap_t, noL_i, noL_n, noL_b, noL_t, ck_0, ck_s, lk_0, lk_1, lk_2, lk_3, lk_4, ln_0, ln_1, ln_2, ln_3, ln_4, own_o, own_l, own_f, its_o, its_l, its_f, lend_o, lend_i, lend_b, lend_n, lend_s, lend_t, cap_k, cap_f, lend_l, lend_f, sh_o, sh_l, sh_f, sh_k, Bool.or_true, Bool.true_or, Bool.or_false, Bool.false_or, intD, isLst, lstO, List.set_cons_zero, List.set_cons_succ, bind_S, forL_0, kL_nx, kL_ct, kL_bk, kL_rt, tg_n, tg_t, tg_0, tg_s, wp_0, wp_s, bk_0, bk_s, rd_0, rd_s, sb_a, sb_l, si_a, si_l, hd_0, out_t, out_f, argD, ite_self, List.map_cons, List.map_nil, List.append_nil, List.cons_append, List.nil_append, Bool.and_true, Bool.true_and, Bool.not_true, Bool.not_false, Bool.and_false, Bool.false_and, true_and, and_true, decide_eq_true_eq, Bool.false_eq_true, if_false, if_true, ite_true, ite_false, reduceIte, Bool.not_eq_true']
      · have e : decide (0 < (((xs.filter fun q => decide (q.1 ≤ v) && decide (v + sz ≤ q.2)).map pr).length : Int)) = xs.any fun q => decide (q.1 ≤ v) && decide (v + sz ≤ q.2) := by
          rw [Bool.eq_iff_iff, decide_eq_true_eq, List.length_map, List.any_eq_true]
          constructor
          · intro h
            obtain ⟨q, hq⟩ := List.exists_mem_of_length_pos (l := xs.filter fun q => decide (q.1 ≤ v) && decide (v + sz ≤ q.2)) (by omega)
            rw [List.mem_filter] at hq
            exact ⟨q, hq⟩
          · rintro ⟨q, h1, h2⟩
            have : q ∈ xs.filter fun q => decide (q.1 ≤ v) && decide (v + sz ≤ q.2) := List.mem_filter.mpr ⟨h1, h2⟩
            have := List.length_pos_of_mem this
            omega
        simp only [e_cst, e_nil, e_yes, e_var, e_fv, e_mv, e_cons, e_dfr, e_op, e_tup, e_lst, e_tr, e_notT, e_andT, e_orT, e_andV, e_orV, e_notV, e_opq, e_if, e_call, e_callM, e_chain, e_src, e_rng, e_lc, g_nx, g_retN, g_brk, g_cnt, g_seq, g_drop, g_ret, g_asg, g_if, g_for, g_app, g_set, kk_ok, kS_ok, kQ_nx, kQ_rt, kQ_bk, kQ_ct, has_some, sl_0, sl_s, st_0, st_s, v_add, v_sub, v_neg, v_lt, v_le, v_gt, v_ge, v_eqi, v_nei, v_is, v_isNot, v_len, v_lenT, v_abs, v_int, v_item, v_itemT, v_list, v_max, v_min, v_repr, blD_bl, truD_bl, truD_lst, isF_int, isF_bl, isF_non, isF_tup, isF_str, isF_lf, isF_lk, isF_lo, isF_ll, at_0, at_1, at_2, ix_0, ix_1, ix_2, cap_i, cap_t, noL_i, noL_n, noL_b, noL_t, ck_0, ck_s, lk_0, lk_1, lk_2, lk_3, lk_4, ln_0, ln_1, ln_2, ln_3, ln_4, own_o, own_l, own_f, its_o, its_l, its_f, lend_o, lend_i, lend_b, lend_n, lend_s, lend_t, cap_k, cap_f, lend_l, lend_f, sh_o, sh_l, sh_f, sh_k, Bool.or_true, Bool.true_or, Bool.or_false, Bool.false_or, intD, isLst, lstO, List.set_cons_zero, List.set_cons_succ, bind_S, forL_0, kL_nx, kL_ct, kL_bk, kL_rt, tg_n, tg_t, tg_0, tg_s, wp_0, wp_s, bk_0, bk_s, rd_0, rd_s, sb_a, sb_l, si_a, si_l, hd_0, out_t, out_f, argD, ite_self, List.map_cons, List.map_nil, List.append_nil, List.cons_append, List.nil_append, Bool.and_true, Bool.true_and, Bool.not_true, Bool.not_false, Bool.and_false, Bool.false_and, true_and, and_true, decide_eq_true_eq, Bool.false_eq_true, if_false, if_true, ite_true, ite_false, reduceIte, Bool.not_eq_true', List.map_id']
        rw [e]
    · simp only [e_cst, e_nil, e_yes, e_var, e_fv, e_mv, e_cons, e_dfr, e_op, e_tup, e_lst, e_tr, e_notT, e_andT, e_orT, e_andV, e_orV, e_notV, e_opq, e_if, e_call, e_callM, e_chain, e_src, e_rng, e_lc, g_nx, g_retN, g_brk, g_cnt, g_seq, g_drop, g_ret, g_asg, g_if, g_for, g_app, g_set, kk_ok, kS_ok, kQ_nx, kQ_rt, kQ_bk, kQ_ct, has_some, sl_0, sl_s, st_0, st_s, v_add, v_sub, v_neg, v_lt, v_le, v_gt, v_ge, v_eqi, v_nei, v_is, v_isNot, v_len, v_lenT, v_abs, v_int, v_item, v_itemT, v_list, v_max, v_min, v_repr, blD_bl, truD_bl, truD_lst, isF_int, isF_bl, isF_non, isF_tup, isF_str, isF_lf, isF_lk, isF_lo, isF_ll, at_0, at_1, at_2, ix_0, ix_1, ix_2, cap_i, cap_t, noL_i, noL_n, noL_b, noL_t, ck_0, ck_s, lk_0, lk_1, lk_2, lk_3, lk_4, ln_0, ln_1, ln_2, ln_3, ln_4, own_o, own_l, own_f, its_o, its_l, its_f, lend_o, lend_i, lend_b, lend_n, lend_s, lend_t, cap_k, cap_f, lend_l, lend_f, sh_o, sh_l, sh_f, sh_k, Bool.or_true, Bool.true_or, Bool.or_false, Bool.false_or, intD, isLst, lstO, List.set_cons_zero, List.set_cons_succ, bind_S, forL_0, kL_nx, kL_ct, kL_bk, kL_rt, tg_n, tg_t, tg_0, tg_s, wp_0, wp_s, bk_0, bk_s, rd_0, rd_s, sb_a, sb_l, si_a, si_l, hd_0, out_t, out_f, argD, ite_self, List.map_cons, List.map_nil, List.append_nil, List.cons_append, List.nil_append, Bool.and_true, Bool.true_and, Bool.not_true, Bool.not_false, Bool.and_false, Bool.false_and, true_and, and_true, decide_eq_true_eq, Bool.false_eq_true, if_false, if_true, ite_true, ite_false, reduceIte, Bool.not_eq_true', List.map_id']
      exact hk
  have eU : shrunkP xs sz = ofP U := by
    obtain ⟨g1, g2⟩ := shrunk_good l7 fx.1
    refine of_eq g1 fun t => ?_
    rw [g2, List.mem_filter, List.any_eq_true, mS]
    simp only [Bool.and_eq_true, decide_eq_true_eq]
    constructor
    · rintro ⟨q, z1, z2, z3⟩
      exact ⟨⟨q, z1, z2, by omega⟩, q, z1, z2, z3⟩
    · rintro ⟨_, q, z1, z2, z3⟩
      exact ⟨q, z1, z2, z3⟩
  refine step (L ns (some (stt ns p9 v9)) (some (spD .o xs)) (some (spD .o ys)) (some (miD .o (setP xs))) (some (miD .o (setP ys))) a6 (some (miD .o C)) (some (spD .o (meetP xs ys))) (some (.int lo)) (some (.int hi)) (some (.int mv)) (some (.int sz)) (some (miD .o U)) none none) (fun k Q hk => ?_) ?_
  · have es := ok_shrunk RO.l xs sz (by omega)
    have eo := ok_of (m := .l) sh_l U (by omega)
    simp only [L, e_cst, e_nil, e_yes, e_var, e_fv, e_mv, e_cons, e_dfr, e_op, e_tup, e_lst, e_tr, e_notT, e_andT, e_orT, e_andV, e_orV, e_notV, e_opq, e_if, e_call, e_callM, e_chain, e_src, e_rng, e_lc, g_nx, g_retN, g_brk, g_cnt, g_seq, g_drop, g_ret, g_asg, g_if, g_for, g_app, g_set, kk_ok, kS_ok, kQ_nx, kQ_rt, kQ_bk, kQ_ct, has_some, sl_0, sl_s, st_0, st_s, v_add, v_sub, v_neg, v_lt, v_le, v_gt, v_ge, v_eqi, v_nei, v_is, v_isNot, v_len, v_lenT, v_abs, v_int, v_item, v_itemT, v_list, v_max, v_min, v_repr, blD_bl, truD_bl, truD_lst, isF_int, isF_bl, isF_non, isF_tup, isF_str, isF_lf, isF_lk, isF_lo, isF_ll, at_0, at_1, at_2, ix_0, ix_1, ix_2, cap_i, cap_t, noL_i, noL_n, noL_b, noL_t, ck_0, ck_s, lk_0, lk_1, lk_2, lk_3, lk_4, ln_0, ln_1, ln_2, ln_3, ln_4, own_o, own_l, own_f, its_o, its_l, its_f, lend_o, lend_i, lend_b, lend_n, lend_s, lend_t, cap_k, cap_f, lend_l, lend_f, sh_o, sh_l, sh_f, sh_k, Bool.or_true, Bool.true_or, Bool.or_false, Bool.false_or, intD, isLst, lstO, List.set_cons_zero, List.set_cons_succ, bind_S, forL_0, kL_nx, kL_ct, kL_bk, kL_rt, tg_n, tg_t, tg_0, tg_s, wp_0, wp_s, bk_0, bk_s, rd_0, rd_s, sb_a, sb_l, si_a, si_l, hd_0, out_t, out_f, argD, ite_self, List.map_cons, List.map_nil, List.append_nil, List.cons_append, List.nil_append, Bool.and_true, Bool.true_and, Bool.not_true, Bool.not_false, Bool.and_false, Bool.false_and, true_and, and_true, decide_eq_true_eq, Bool.false_eq_true, if_false, if_true, ite_true, ite_false, reduceIte, Bool.not_eq_true', es, eo, ne_p, eU, eq_self, decide_true, Bool.true_eq_false]
    exact hk
  -- drawn
  obtain ⟨m9, p10, v10, l9, l10, hv10, e10⟩ := take_ok ns p9 v9 9 hv9 (by omega) (by omega)
  refine stepE (fun δ' => ∃ (zs : List Int) (p : Nat) (v : Int), zs.length ≤ 100 ∧ (∀ t ∈ zs, 0 ≤ t ∧ t < 40) ∧ 0 ≤ v ∧ δ' = L ns (some (stt ns p v)) (some (spD .o xs)) (some (spD .o ys)) (some (miD .o (setP xs))) (some (miD .o (setP ys))) a6 (some (miD .o C)) (some (spD .o (meetP xs ys))) (some (.int lo)) (some (.int hi)) (some (.int mv)) (some (.int sz)) (some (miD .o U)) (some (miD .o zs)) none) (fun QQ h => ?_) ?_
  · simp only [L, e_cst, e_nil, e_yes, e_var, e_fv, e_mv, e_cons, e_dfr, e_op, e_tup, e_lst, e_tr, e_notT, e_andT, e_orT, e_andV, e_orV, e_notV, e_opq, e_if, e_call, e_callM, e_chain, e_src, e_rng, e_lc, g_nx, g_retN, g_brk, g_cnt, g_seq, g_drop, g_ret, g_asg, g_if, g_for, g_app, g_set, kk_ok, kS_ok, kQ_nx, kQ_rt, kQ_bk, kQ_ct, has_some, sl_0, sl_s, st_0, st_s, v_add, v_sub, v_neg, v_lt, v_le, v_gt, v_ge, v_eqi, v_nei, v_is, v_isNot, v_len, v_lenT, v_abs, v_int, v_item, v_itemT, v_list, v_max, v_min, v_repr, blD_bl, truD_bl, truD_lst, isF_int, isF_bl, isF_non, isF_tup, isF_str, isF_lf, isF_lk, isF_lo, isF_ll, at_0, at_1, at_2, ix_0, ix_1, ix_2, cap_i, cap_t, noL_i, noL_n, noL_b, noL_t, ck_0, ck_s, lk_0, lk_1, lk_2, lk_3, lk_4, ln_0, ln_1, ln_2, ln_3, ln_4, own_o, own_l, own_f, its_o, its_l, its_f, lend_o, lend_i, lend_b, lend_n, lend_s, lend_t, cap_k, cap_f, lend_l, lend_f, sh_o, sh_l, sh_f, sh_k, Bool.or_true, Bool.true_or, Bool.or_false, Bool.false_or, intD, isLst, lstO, List.set_cons_zero, List.set_cons_succ, bind_S, forL_0, kL_nx, kL_ct, kL_bk, kL_rt, tg_n, tg_t, tg_0, tg_s, wp_0, wp_s, bk_0, bk_s, rd_0, rd_s, sb_a, sb_l, si_a, si_l, hd_0, out_t, out_f, argD, ite_self, List.map_cons, List.map_nil, List.append_nil, List.cons_append, List.nil_append, Bool.and_true, Bool.true_and, Bool.not_true, Bool.not_false, Bool.and_false, Bool.false_and, true_and, and_true, decide_eq_true_eq, Bool.false_eq_true, if_false, if_true, ite_true, ite_false, reduceIte, Bool.not_eq_true', e10, rng1_i m9 ⟨by omega, by omega⟩]
    refine lp_drawn (ns := ns) (mins 0 m9.toNat) [] p10 v10 hv10 (by rw [mins_len]; simp; omega) (fun t h => by simp at h) fun zs p' v' q1 q2 q3 => ?_
    simp only [e_cst, e_nil, e_yes, e_var, e_fv, e_mv, e_cons, e_dfr, e_op, e_tup, e_lst, e_tr, e_notT, e_andT, e_orT, e_andV, e_orV, e_notV, e_opq, e_if, e_call, e_callM, e_chain, e_src, e_rng, e_lc, g_nx, g_retN, g_brk, g_cnt, g_seq, g_drop, g_ret, g_asg, g_if, g_for, g_app, g_set, kk_ok, kS_ok, kQ_nx, kQ_rt, kQ_bk, kQ_ct, has_some, sl_0, sl_s, st_0, st_s, v_add, v_sub, v_neg, v_lt, v_le, v_gt, v_ge, v_eqi, v_nei, v_is, v_isNot, v_len, v_lenT, v_abs, v_int, v_item, v_itemT, v_list, v_max, v_min, v_repr, blD_bl, truD_bl, truD_lst, isF_int, isF_bl, isF_non, isF_tup, isF_str, isF_lf, isF_lk, isF_lo, isF_ll, at_0, at_1, at_2, ix_0, ix_1, ix_2, cap_i, cap_t, noL_i, noL_n, noL_b, noL_t, ck_0, ck_s, lk_0, lk_1, lk_2, lk_3, lk_4, ln_0, ln_1, ln_2, ln_3, ln_4, own_o, own_l, own_f, its_o, its_l, its_f, lend_o, lend_i, lend_b, lend_n, lend_s, lend_t, cap_k, cap_f, lend_l, lend_f, sh_o, sh_l, sh_f, sh_k, Bool.or_true, Bool.true_or, Bool.or_false, Bool.false_or, intD, isLst, lstO, List.set_cons_zero, List.set_cons_succ, bind_S, forL_0, kL_nx, kL_ct, kL_bk, kL_rt, tg_n, tg_t, tg_0, tg_s, wp_0, wp_s, bk_0, bk_s, rd_0, rd_s, sb_a, sb_l, si_a, si_l, hd_0, out_t, out_f, argD, ite_self, List.map_cons, List.map_nil, List.append_nil, List.cons_append, List.nil_append, Bool.and_true, Bool.true_and, Bool.not_true, Bool.not_false, Bool.and_false, Bool.false_and, true_and, and_true, decide_eq_true_eq, Bool.false_eq_true, if_false, if_true, ite_true, ite_false, reduceIte, Bool.not_eq_true']
    exact h _ ⟨zs, p', v', q1, q2, q3, rfl⟩
  rintro _ ⟨zs, p11, v11, lz, hz, hv11, rfl⟩
  refine stepE (fun δ' => ∃ (rs : Sp) (p : Nat) (v : Int), rs.length ≤ 100 ∧ (∀ q ∈ rs, 0 ≤ q.1 ∧ q.1 ≤ q.2 ∧ q.2 < 50) ∧ 0 ≤ v ∧ δ' = L ns (some (stt ns p v)) (some (spD .o xs)) (some (spD .o ys)) (some (miD .o (setP xs))) (some (miD .o (setP ys))) a6 (some (miD .o C)) (some (spD .o (meetP xs ys))) (some (.int lo)) (some (.int hi)) (some (.int mv)) (some (.int sz)) (some (miD .o U)) (some (miD .o zs)) (some (spD .o rs))) (fun QQ h => ?_) ?_
  · simp only [L, e_cst, e_nil, e_yes, e_var, e_fv, e_mv, e_cons, e_dfr, e_op, e_tup, e_lst, e_tr, e_notT, e_andT, e_orT, e_andV, e_orV, e_notV, e_opq, e_if, e_call, e_callM, e_chain, e_src, e_rng, e_lc, g_nx, g_retN, g_brk, g_cnt, g_seq, g_drop, g_ret, g_asg, g_if, g_for, g_app, g_set, kk_ok, kS_ok, kQ_nx, kQ_rt, kQ_bk, kQ_ct, has_some, sl_0, sl_s, st_0, st_s, v_add, v_sub, v_neg, v_lt, v_le, v_gt, v_ge, v_eqi, v_nei, v_is, v_isNot, v_len, v_lenT, v_abs, v_int, v_item, v_itemT, v_list, v_max, v_min, v_repr, blD_bl, truD_bl, truD_lst, isF_int, isF_bl, isF_non, isF_tup, isF_str, isF_lf, isF_lk, isF_lo, isF_ll, at_0, at_1, at_2, ix_0, ix_1, ix_2, cap_i, cap_t, noL_i, noL_n, noL_b, noL_t, ck_0, ck_s, lk_0, lk_1, lk_2, lk_3, lk_4, ln_0, ln_1, ln_2, ln_3, ln_4, own_o, own_l, own_f, its_o, its_l, its_f, lend_o, lend_i, lend_b, lend_n, lend_s, lend_t, cap_k, cap_f, lend_l, lend_f, sh_o, sh_l, sh_f, sh_k, Bool.or_true, Bool.true_or, Bool.or_false, Bool.false_or, intD, isLst, lstO, List.set_cons_zero, List.set_cons_succ, bind_S, forL_0, kL_nx, kL_ct, kL_bk, kL_rt, tg_n, tg_t, tg_0, tg_s, wp_0, wp_s, bk_0, bk_s, rd_0, rd_s, sb_a, sb_l, si_a, si_l, hd_0, out_t, out_f, argD, ite_self, List.map_cons, List.map_nil, List.append_nil, List.cons_append, List.nil_append, Bool.and_true, Bool.true_and, Bool.not_true, Bool.not_false, Bool.and_false, Bool.false_and, true_and, and_true, decide_eq_true_eq, Bool.false_eq_true, if_false, if_true, ite_true, ite_false, reduceIte, Bool.not_eq_true']
    refine lp_rows (ns := ns) zs [] p11 v11 hv11 (by simp; omega) hz (fun q h => by simp at h) fun rs p' v' q1 q2 q3 => ?_
    simp only [e_cst, e_nil, e_yes, e_var, e_fv, e_mv, e_cons, e_dfr, e_op, e_tup, e_lst, e_tr, e_notT, e_andT, e_orT, e_andV, e_orV, e_notV, e_opq, e_if, e_call, e_callM, e_chain, e_src, e_rng, e_lc, g_nx, g_retN, g_brk, g_cnt, g_seq, g_drop, g_ret, g_asg, g_if, g_for, g_app, g_set, kk_ok, kS_ok, kQ_nx, kQ_rt, kQ_bk, kQ_ct, has_some, sl_0, sl_s, st_0, st_s, v_add, v_sub, v_neg, v_lt, v_le, v_gt, v_ge, v_eqi, v_nei, v_is, v_isNot, v_len, v_lenT, v_abs, v_int, v_item, v_itemT, v_list, v_max, v_min, v_repr, blD_bl, truD_bl, truD_lst, isF_int, isF_bl, isF_non, isF_tup, isF_str, isF_lf, isF_lk, isF_lo, isF_ll, at_0, at_1, at_2, ix_0, ix_1, ix_2, cap_i, cap_t, noL_i, noL_n, noL_b, noL_t, ck_0, ck_s, lk_0, lk_1, lk_2, lk_3, lk_4, ln_0, ln_1, ln_2, ln_3, ln_4, own_o, own_l, own_f, its_o, its_l, its_f, lend_o, lend_i, lend_b, lend_n, lend_s, lend_t, cap_k, cap_f, lend_l, lend_f, sh_o, sh_l, sh_f, sh_k, Bool.or_true, Bool.true_or, Bool.or_false, Bool.false_or, intD, isLst, lstO, List.set_cons_zero, List.set_cons_succ, bind_S, forL_0, kL_nx, kL_ct, kL_bk, kL_rt, tg_n, tg_t, tg_0, tg_s, wp_0, wp_s, bk_0, bk_s, rd_0, rd_s, sb_a, sb_l, si_a, si_l, hd_0, out_t, out_f, argD, ite_self, List.map_cons, List.map_nil, List.append_nil, List.cons_append, List.nil_append, Bool.and_true, Bool.true_and, Bool.not_true, Bool.not_false, Bool.and_false, Bool.false_and, true_and, and_true, decide_eq_true_eq, Bool.false_eq_true, if_false, if_true, ite_true, ite_false, reduceIte, Bool.not_eq_true']
    exact h _ ⟨rs, p', v', q1, q2, q3, rfl⟩
  rintro _ ⟨rs, p12, v12, lr, hr, hv12, rfl⟩
  have eA : tidyP (zs.map fun t => (t, t)) = ofP zs := by
    obtain ⟨⟨b, g1⟩, g2⟩ := tidy_good (xs := zs.map fun t => (t, t)) fun q h => by
      obtain ⟨t, _, rfl⟩ := List.mem_map.mp h
      exact Int.le_refl _
    refine of_eq g1 fun t => ?_
    rw [g2]
    unfold In on
    constructor
    · rintro ⟨q, h, h2, h3⟩
      obtain ⟨w, hw, rfl⟩ := List.mem_map.mp h
      have : t = w := by simp only at h2 h3; omega
      rw [this]; exact hw
    · intro h
      exact ⟨(t, t), List.mem_map.mpr ⟨t, h, rfl⟩, Int.le_refl _, Int.le_refl _⟩
  have eB : tidyP rs = ofP (setP rs) := by
    obtain ⟨⟨b, g1⟩, g2⟩ := tidy_good (xs := rs) fun q h => (hr q h).2.1
    refine of_eq g1 fun t => ?_
    rw [g2, mem_set]
    constructor
    · rintro ⟨q, h1, h2, h3⟩
      have := hr q h1
      exact ⟨by omega, q, h1, h2, h3⟩
    · exact fun z => z.2
  have eC : ofP (setP xs) = xs := (of_eq fx.1 fun t => (mS t).symm).symm
  have k1 := ok_spans_of RO.f zs (by omega)
  have k2 := ok_of (m := .l) sh_l zs (by omega)
  have k3 := ok_tidy (m := .f) sh_f rs (by omega)
  have k4 := ok_set RO.l rs (by omega)
  have k5 := ok_of (m := .f) sh_f (setP rs) (by have := set_len rs; omega)
  have k6 := ok_of (m := .l) sh_l (setP xs) (by omega)
  simp only [L, e_cst, e_nil, e_yes, e_var, e_fv, e_mv, e_cons, e_dfr, e_op, e_tup, e_lst, e_tr, e_notT, e_andT, e_orT, e_andV, e_orV, e_notV, e_opq, e_if, e_call, e_callM, e_chain, e_src, e_rng, e_lc, g_nx, g_retN, g_brk, g_cnt, g_seq, g_drop, g_ret, g_asg, g_if, g_for, g_app, g_set, kk_ok, kS_ok, kQ_nx, kQ_rt, kQ_bk, kQ_ct, has_some, sl_0, sl_s, st_0, st_s, v_add, v_sub, v_neg, v_lt, v_le, v_gt, v_ge, v_eqi, v_nei, v_is, v_isNot, v_len, v_lenT, v_abs, v_int, v_item, v_itemT, v_list, v_max, v_min, v_repr, blD_bl, truD_bl, truD_lst, isF_int, isF_bl, isF_non, isF_tup, isF_str, isF_lf, isF_lk, isF_lo, isF_ll, at_0, at_1, at_2, ix_0, ix_1, ix_2, cap_i, cap_t, noL_i, noL_n, noL_b, noL_t, ck_0, ck_s, lk_0, lk_1, lk_2, lk_3, lk_4, ln_0, ln_1, ln_2, ln_3, ln_4, own_o, own_l, own_f, its_o, its_l, its_f, lend_o, lend_i, lend_b, lend_n, lend_s, lend_t, cap_k, cap_f, lend_l, lend_f, sh_o, sh_l, sh_f, sh_k, Bool.or_true, Bool.true_or, Bool.or_false, Bool.false_or, intD, isLst, lstO, List.set_cons_zero, List.set_cons_succ, bind_S, forL_0, kL_nx, kL_ct, kL_bk, kL_rt, tg_n, tg_t, tg_0, tg_s, wp_0, wp_s, bk_0, bk_s, rd_0, rd_s, sb_a, sb_l, si_a, si_l, hd_0, out_t, out_f, argD, ite_self, List.map_cons, List.map_nil, List.append_nil, List.cons_append, List.nil_append, Bool.and_true, Bool.true_and, Bool.not_true, Bool.not_false, Bool.and_false, Bool.false_and, true_and, and_true, decide_eq_true_eq, Bool.false_eq_true, if_false, if_true, ite_true, ite_false, reduceIte, Bool.not_eq_true', cap_o, k1, k2, k3, k4, k5, k6, eA, eB, eC, eq_p, eq_self, decide_true]
  rfl
end K11
namespace K11
open PySem L2 PD PyProof.Rows
def gc (K : PySem.W.Frag) : GC := ⟨K, fun _ => 0, fun _ => Str.ofString ""⟩
def d_inside : He.DefD := ⟨("inside", none), "inside", "inside", defArgs s_inside, defBody s_inside, defScope s_inside, [], []⟩
def d_next_in : He.DefD := ⟨("next_in", none), "next_in", "next_in", defArgs s_next_in, defBody s_next_in, defScope s_next_in, [], []⟩
def d_last_in : He.DefD := ⟨("last_in", none), "last_in", "last_in", defArgs s_last_in, defBody s_last_in, defScope s_last_in, [], []⟩
def d_meet_spans : He.DefD := ⟨("meet_spans", none), "meet_spans", "meet_spans", defArgs s_meet_spans, defBody s_meet_spans, defScope s_meet_spans, [], []⟩
def d_tidy : He.DefD := ⟨("tidy", none), "tidy", "tidy", defArgs s_tidy, defBody s_tidy, defScope s_tidy, [], []⟩
def d_join_spans : He.DefD := ⟨("join_spans", none), "join_spans", "join_spans", defArgs s_join_spans, defBody s_join_spans, defScope s_join_spans, [], []⟩
def d_turned : He.DefD := ⟨("turned", none), "turned", "turned", defArgs s_turned, defBody s_turned, defScope s_turned, [], []⟩
def d_shifted : He.DefD := ⟨("shifted", none), "shifted", "shifted", defArgs s_shifted, defBody s_shifted, defScope s_shifted, [], []⟩
def d_shrunk : He.DefD := ⟨("shrunk", none), "shrunk", "shrunk", defArgs s_shrunk, defBody s_shrunk, defScope s_shrunk, [], []⟩
def d_length : He.DefD := ⟨("length", none), "length", "length", defArgs s_length, defBody s_length, defScope s_length, [], []⟩
def d_nth : He.DefD := ⟨("nth", none), "nth", "nth", defArgs s_nth, defBody s_nth, defScope s_nth, [], []⟩
def d_rank : He.DefD := ⟨("rank", none), "rank", "rank", defArgs s_rank, defBody s_rank, defScope s_rank, [], []⟩
def d_spans_of : He.DefD := ⟨("spans_of", none), "spans_of", "spans_of", defArgs s_spans_of, defBody s_spans_of, defScope s_spans_of, [], []⟩
def d_within : He.DefD := ⟨("within", none), "within", "within", defArgs s_within, defBody s_within, defScope s_within, [], []⟩
def d__law_cell : He.DefD := ⟨("_law_cell", none), "_law_cell", "_law_cell", defArgs s__law_cell, defBody s__law_cell, defScope s__law_cell, [], []⟩
def d__law_take : He.DefD := ⟨("_law_take", none), "_law_take", "_law_take", defArgs s__law_take, defBody s__law_take, defScope s__law_take, [], []⟩
def d__law_spans : He.DefD := ⟨("_law_spans", none), "_law_spans", "_law_spans", defArgs s__law_spans, defBody s__law_spans, defScope s__law_spans, [], []⟩
def d__law_set : He.DefD := ⟨("_law_set", none), "_law_set", "_law_set", defArgs s__law_set, defBody s__law_set, defScope s__law_set, [], []⟩
def d__law_of : He.DefD := ⟨("_law_of", none), "_law_of", "_law_of", defArgs s__law_of, defBody s__law_of, defScope s__law_of, [], []⟩
def d__law_one_right : He.DefD := ⟨("_law_one_right", none), "_law_one_right", "_law_one_right", defArgs s__law_one_right, defBody s__law_one_right, defScope s__law_one_right, [], []⟩
def d_law : He.DefD := ⟨("law", none), "law", "law", defArgs s_law, defBody s_law, defScope s_law, [], []⟩
def fn : List He.DefD := [d_inside, d_next_in, d_last_in, d_meet_spans, d_tidy, d_join_spans, d_turned, d_shifted, d_shrunk, d_length, d_nth, d_rank, d_spans_of, d_within, d__law_cell, d__law_take, d__law_spans, d__law_set, d__law_of, d__law_one_right, d_law]
def fa : List He.Fa := [.glo "inside", .glo "next_in", .glo "last_in", .glo "meet_spans", .glo "tidy", .glo "join_spans", .glo "turned", .glo "shifted", .glo "shrunk", .glo "length", .glo "nth", .glo "rank", .glo "spans_of", .glo "within", .glo "_law_cell", .glo "_law_take", .glo "_law_spans", .glo "_law_set", .glo "_law_of", .glo "_law_one_right", .glo "law", .free "abs", .free "int", .free "len", .free "list", .free "max", .free "min", .free "range", .free "repr", .free "sorted", .free "sum"]
abbrev R : PySem.W.OpenRow := PySem.W.OpenLaw.row PySem.Challenge.rw_overbar_k11_spans_are_sets_of_minutes
abbrev hk : PySem.W.Hook := He.hookD 4 fa fn
def ob (s : PySem.W.SharedT) : He.AlD := He.obsDG 4 fa fn (HandSHeadRun.getT s)
theorem ob_eq (s : PySem.W.SharedT) : ob s = hk.obs s.abs := He.obsDG_eq (HandSHeadRun.getT_eq s)
def loose0 : List Str := ["inside", "next_in", "last_in", "meet_spans", "tidy", "join_spans", "turned", "shifted", "shrunk", "length", "nth", "rank", "spans_of", "within", "_law_cell", "_law_take", "_law_spans", "_law_set", "_law_of", "_law_one_right"]
def loose : List Str := loose0
theorem run (w : World) : HandSHeadRun.RunEq R (PySem.W.view R.prog [22]) hk ob 1780 loose w := by
  intro os
  kernel_rfl
theorem facts {P : Program} {w : World} {K : PySem.W.Frag} {h : Heap} {mg : Str → Option Value} {f : Addr} (X : K.In h) (G : h.Ns mainGlobals mg) (hfa : mg ("law" : Str) = some (.ref f)) (c : He.SaysD fa fn K) :
    ∃ fd : FuncData, (∀ (s : Shared) (v : Value), BindsTo s fd ⟨[v], []⟩ [("script", v)]) ∧ ∀ base : Heap, K.In base → base.Ns mainGlobals mg → FnOk P w K mg base (L2.CX P w) 4 f fd ["script"] (spF (gc K) F_law) := by
  obtain ⟨fd_inside, D_inside⟩ := c.def_ 0 (d := d_inside) rfl
  have g_inside := He.glo_ok X G (c.fact 0 (f := .glo "inside") rfl)
  obtain ⟨fd_next_in, D_next_in⟩ := c.def_ 1 (d := d_next_in) rfl
  have g_next_in := He.glo_ok X G (c.fact 1 (f := .glo "next_in") rfl)
  obtain ⟨fd_last_in, D_last_in⟩ := c.def_ 2 (d := d_last_in) rfl
  have g_last_in := He.glo_ok X G (c.fact 2 (f := .glo "last_in") rfl)
  obtain ⟨fd_meet_spans, D_meet_spans⟩ := c.def_ 3 (d := d_meet_spans) rfl
  have g_meet_spans := He.glo_ok X G (c.fact 3 (f := .glo "meet_spans") rfl)
  obtain ⟨fd_tidy, D_tidy⟩ := c.def_ 4 (d := d_tidy) rfl
  have g_tidy := He.glo_ok X G (c.fact 4 (f := .glo "tidy") rfl)
  obtain ⟨fd_join_spans, D_join_spans⟩ := c.def_ 5 (d := d_join_spans) rfl
  have g_join_spans := He.glo_ok X G (c.fact 5 (f := .glo "join_spans") rfl)
  obtain ⟨fd_turned, D_turned⟩ := c.def_ 6 (d := d_turned) rfl
  have g_turned := He.glo_ok X G (c.fact 6 (f := .glo "turned") rfl)
  obtain ⟨fd_shifted, D_shifted⟩ := c.def_ 7 (d := d_shifted) rfl
  have g_shifted := He.glo_ok X G (c.fact 7 (f := .glo "shifted") rfl)
  obtain ⟨fd_shrunk, D_shrunk⟩ := c.def_ 8 (d := d_shrunk) rfl
  have g_shrunk := He.glo_ok X G (c.fact 8 (f := .glo "shrunk") rfl)
  obtain ⟨fd_length, D_length⟩ := c.def_ 9 (d := d_length) rfl
  have g_length := He.glo_ok X G (c.fact 9 (f := .glo "length") rfl)
  obtain ⟨fd_nth, D_nth⟩ := c.def_ 10 (d := d_nth) rfl
  have g_nth := He.glo_ok X G (c.fact 10 (f := .glo "nth") rfl)
  obtain ⟨fd_rank, D_rank⟩ := c.def_ 11 (d := d_rank) rfl
  have g_rank := He.glo_ok X G (c.fact 11 (f := .glo "rank") rfl)
  obtain ⟨fd_spans_of, D_spans_of⟩ := c.def_ 12 (d := d_spans_of) rfl
  have g_spans_of := He.glo_ok X G (c.fact 12 (f := .glo "spans_of") rfl)
  obtain ⟨fd_within, D_within⟩ := c.def_ 13 (d := d_within) rfl
  have g_within := He.glo_ok X G (c.fact 13 (f := .glo "within") rfl)
  obtain ⟨fd__law_cell, D__law_cell⟩ := c.def_ 14 (d := d__law_cell) rfl
  have g__law_cell := He.glo_ok X G (c.fact 14 (f := .glo "_law_cell") rfl)
  obtain ⟨fd__law_take, D__law_take⟩ := c.def_ 15 (d := d__law_take) rfl
  have g__law_take := He.glo_ok X G (c.fact 15 (f := .glo "_law_take") rfl)
  obtain ⟨fd__law_spans, D__law_spans⟩ := c.def_ 16 (d := d__law_spans) rfl
  have g__law_spans := He.glo_ok X G (c.fact 16 (f := .glo "_law_spans") rfl)
  obtain ⟨fd__law_set, D__law_set⟩ := c.def_ 17 (d := d__law_set) rfl
  have g__law_set := He.glo_ok X G (c.fact 17 (f := .glo "_law_set") rfl)
  obtain ⟨fd__law_of, D__law_of⟩ := c.def_ 18 (d := d__law_of) rfl
  have g__law_of := He.glo_ok X G (c.fact 18 (f := .glo "_law_of") rfl)
  obtain ⟨fd__law_one_right, D__law_one_right⟩ := c.def_ 19 (d := d__law_one_right) rfl
  have g__law_one_right := He.glo_ok X G (c.fact 19 (f := .glo "_law_one_right") rfl)
  obtain ⟨fd_law, D_law⟩ := c.def_ 20 (d := d_law) rfl
  have g_law := He.glo_ok X G (c.fact 20 (f := .glo "law") rfl)
  have m_abs : mg (Str.ofString "abs") = none := He.free_ok X G (c.fact 21 (f := .free "abs") rfl)
  have m_int : mg (Str.ofString "int") = none := He.free_ok X G (c.fact 22 (f := .free "int") rfl)
  have m_len : mg (Str.ofString "len") = none := He.free_ok X G (c.fact 23 (f := .free "len") rfl)
  have m_list : mg (Str.ofString "list") = none := He.free_ok X G (c.fact 24 (f := .free "list") rfl)
  have m_max : mg (Str.ofString "max") = none := He.free_ok X G (c.fact 25 (f := .free "max") rfl)
  have m_min : mg (Str.ofString "min") = none := He.free_ok X G (c.fact 26 (f := .free "min") rfl)
  have m_range : mg (Str.ofString "range") = none := He.free_ok X G (c.fact 27 (f := .free "range") rfl)
  have m_repr : mg (Str.ofString "repr") = none := He.free_ok X G (c.fact 28 (f := .free "repr") rfl)
  have m_sorted : mg (Str.ofString "sorted") = none := He.free_ok X G (c.fact 29 (f := .free "sorted") rfl)
  have m_sum : mg (Str.ofString "sum") = none := He.free_ok X G (c.fact 30 (f := .free "sum") rfl)
  have e := hfa.symm.trans g_law
  cases e
  refine ⟨fd_law, fun s v => (FunD.bindsA (ps := ["script"]) D_law fun _ _ _ _ _ _ us hl => match us, hl with | [_], _ => rfl) s [v] rfl, fun base _ _ => ?_⟩
  let E : En := ⟨P, w, K, mg, base⟩
  have hG : (gc K).K = E.K := rfl
  have c_meet_spans : Fd E (gc K) (Str.ofString "meet_spans") 1 F_meet_spans [] := fd_all (fd_of (E := E) (G := gc K) (m := false) D_meet_spans g_meet_spans sc_meet_spans (by decide) (by decide) (b_meet_spans (E := E) (G := gc K) hG m_max m_min)) g_meet_spans D_meet_spans.kp (FunD.bindsN D_meet_spans fun _ _ _ _ _ _ us hl => match us, hl with | [_, _], _ => rfl)
  have c_tidy : Fd E (gc K) (Str.ofString "tidy") 1 F_tidy [] := fd_all (fd_of (E := E) (G := gc K) (m := false) D_tidy g_tidy sc_tidy (by decide) (by decide) (b_tidy (E := E) (G := gc K) hG m_max m_sorted)) g_tidy D_tidy.kp (FunD.bindsN D_tidy fun _ _ _ _ _ _ us hl => match us, hl with | [_], _ => rfl)
  have c_join_spans : Fd E (gc K) (Str.ofString "join_spans") 2 F_join_spans [] := fd_all (fd_of (E := E) (G := gc K) (m := false) D_join_spans g_join_spans sc_join_spans (by decide) (by decide) (b_join_spans (E := E) (G := gc K) hG m_list c_tidy)) g_join_spans D_join_spans.kp (FunD.bindsN D_join_spans fun _ _ _ _ _ _ us hl => match us, hl with | [_, _], _ => rfl)
  have c_turned : Fd E (gc K) (Str.ofString "turned") 1 F_turned [] := fd_all (fd_of (E := E) (G := gc K) (m := false) D_turned g_turned sc_turned (by decide) (by decide) (b_turned (E := E) (G := gc K) hG m_max m_min)) g_turned D_turned.kp (FunD.bindsN D_turned fun _ _ _ _ _ _ us hl => match us, hl with | [_, _, _], _ => rfl)
  have c_shifted : Fd E (gc K) (Str.ofString "shifted") 2 F_shifted [] := fd_all (fd_of (E := E) (G := gc K) (m := false) D_shifted g_shifted sc_shifted (by decide) (by decide) (b_shifted (E := E) (G := gc K) hG c_meet_spans)) g_shifted D_shifted.kp (FunD.bindsN D_shifted fun _ _ _ _ _ _ us hl => match us, hl with | [_, _, _, _], _ => rfl)
  have c_shrunk : Fd E (gc K) (Str.ofString "shrunk") 1 F_shrunk [] := fd_all (fd_of (E := E) (G := gc K) (m := false) D_shrunk g_shrunk sc_shrunk (by decide) (by decide) (b_shrunk (E := E) (G := gc K) hG)) g_shrunk D_shrunk.kp (FunD.bindsN D_shrunk fun _ _ _ _ _ _ us hl => match us, hl with | [_, _], _ => rfl)
  have c_spans_of : Fd E (gc K) (Str.ofString "spans_of") 2 F_spans_of [] := fd_all (fd_of (E := E) (G := gc K) (m := false) D_spans_of g_spans_of sc_spans_of (by decide) (by decide) (b_spans_of (E := E) (G := gc K) hG c_tidy)) g_spans_of D_spans_of.kp (FunD.bindsN D_spans_of fun _ _ _ _ _ _ us hl => match us, hl with | [_], _ => rfl)
  have c_within : Fd E (gc K) (Str.ofString "within") 2 F_within [] := fd_all (fd_of (E := E) (G := gc K) (m := false) D_within g_within sc_within (by decide) (by decide) (b_within (E := E) (G := gc K) hG m_list c_meet_spans)) g_within D_within.kp (FunD.bindsN D_within fun _ _ _ _ _ _ us hl => match us, hl with | [_, _], _ => rfl)
  have c__law_cell : Fd E (gc K) (Str.ofString "_law_cell") 1 F__law_cell [] := fd_all (fd_of (E := E) (G := gc K) (m := false) D__law_cell g__law_cell sc__law_cell (by decide) (by decide) (b__law_cell (E := E) (G := gc K) hG m_abs m_int m_len)) g__law_cell D__law_cell.kp (FunD.bindsN D__law_cell fun _ _ _ _ _ _ us hl => match us, hl with | [_, _], _ => rfl)
  have c__law_take : Fd E (gc K) (Str.ofString "_law_take") 2 F__law_take [] := fd_all (fd_of (E := E) (G := gc K) (m := true) D__law_take g__law_take sc__law_take (by decide) (by decide) (b__law_take (E := E) (G := gc K) hG m_int c__law_cell)) g__law_take D__law_take.kp (FunD.bindsN D__law_take fun _ _ _ _ _ _ us hl => match us, hl with | [_, _], _ => rfl)
  have c__law_spans : Fd E (gc K) (Str.ofString "_law_spans") 3 F__law_spans [] := fd_all (fd_of (E := E) (G := gc K) (m := true) D__law_spans g__law_spans sc__law_spans (by decide) (by decide) (b__law_spans (E := E) (G := gc K) hG m_min m_range c__law_take)) g__law_spans D__law_spans.kp (FunD.bindsN D__law_spans fun _ _ _ _ _ _ us hl => match us, hl with | [_, _, _], _ => rfl)
  have c__law_set : Fd E (gc K) (Str.ofString "_law_set") 1 F__law_set [] := fd_all (fd_of (E := E) (G := gc K) (m := false) D__law_set g__law_set sc__law_set (by decide) (by decide) (b__law_set (E := E) (G := gc K) hG m_len m_range)) g__law_set D__law_set.kp (FunD.bindsN D__law_set fun _ _ _ _ _ _ us hl => match us, hl with | [_], _ => rfl)
  have c__law_of : Fd E (gc K) (Str.ofString "_law_of") 1 F__law_of [] := fd_all (fd_of (E := E) (G := gc K) (m := false) D__law_of g__law_of sc__law_of (by decide) (by decide) (b__law_of (E := E) (G := gc K) hG m_sorted)) g__law_of D__law_of.kp (FunD.bindsN D__law_of fun _ _ _ _ _ _ us hl => match us, hl with | [_], _ => rfl)
  have c_inside : Fd E (gc K) (Str.ofString "inside") 1 F_inside [] := fd_all (fd_of (E := E) (G := gc K) (m := false) D_inside g_inside sc_inside (by decide) (by decide) (b_inside (E := E) (G := gc K) hG)) g_inside D_inside.kp (FunD.bindsN D_inside fun _ _ _ _ _ _ us hl => match us, hl with | [_, _], _ => rfl)
  have c_next_in : Fd E (gc K) (Str.ofString "next_in") 1 F_next_in [] := fd_all (fd_of (E := E) (G := gc K) (m := false) D_next_in g_next_in sc_next_in (by decide) (by decide) (b_next_in (E := E) (G := gc K) hG m_max)) g_next_in D_next_in.kp (FunD.bindsN D_next_in fun _ _ _ _ _ _ us hl => match us, hl with | [_, _], _ => rfl)
  have c_last_in : Fd E (gc K) (Str.ofString "last_in") 1 F_last_in [] := fd_all (fd_of (E := E) (G := gc K) (m := false) D_last_in g_last_in sc_last_in (by decide) (by decide) (b_last_in (E := E) (G := gc K) hG m_min)) g_last_in D_last_in.kp (FunD.bindsN D_last_in fun _ _ _ _ _ _ us hl => match us, hl with | [_, _], _ => rfl)
  have c_length : Fd E (gc K) (Str.ofString "length") 1 F_length [] := fd_all (fd_of (E := E) (G := gc K) (m := false) D_length g_length sc_length (by decide) (by decide) (b_length (E := E) (G := gc K) hG m_sum)) g_length D_length.kp (FunD.bindsN D_length fun _ _ _ _ _ _ us hl => match us, hl with | [_], _ => rfl)
  have c_nth : Fd E (gc K) (Str.ofString "nth") 1 F_nth [] := fd_all (fd_of (E := E) (G := gc K) (m := false) D_nth g_nth sc_nth (by decide) (by decide) (b_nth (E := E) (G := gc K) hG)) g_nth D_nth.kp (FunD.bindsN D_nth fun _ _ _ _ _ _ us hl => match us, hl with | [_, _], _ => rfl)
  have c_rank : Fd E (gc K) (Str.ofString "rank") 2 F_rank [] := fd_all (fd_of (E := E) (G := gc K) (m := false) D_rank g_rank sc_rank (by decide) (by decide) (b_rank (E := E) (G := gc K) hG c_meet_spans c_length)) g_rank D_rank.kp (FunD.bindsN D_rank fun _ _ _ _ _ _ us hl => match us, hl with | [_, _], _ => rfl)
  have c__law_one_right : Fd E (gc K) (Str.ofString "_law_one_right") 3 F__law_one_right [] := fd_all (fd_of (E := E) (G := gc K) (m := false) D__law_one_right g__law_one_right sc__law_one_right (by decide) (by decide) (b__law_one_right (E := E) (G := gc K) hG m_len m_repr c_inside c_next_in c_last_in c_length c_nth c_rank)) g__law_one_right D__law_one_right.kp (FunD.bindsN D__law_one_right fun _ _ _ _ _ _ us hl => match us, hl with | [_, _, _], _ => rfl)
  exact fd_of (E := E) (G := gc K) (m := false) D_law g_law sc_law (by decide) (by decide) (b_law (E := E) (G := gc K) hG m_len m_list m_range m_repr m_sorted c_meet_spans c_tidy c_join_spans c_turned c_shifted c_shrunk c_spans_of c_within c__law_take c__law_spans c__law_set c__law_of c__law_one_right)
end K11
open PySem PySem.W PySem.Calls PyProof.Rows
theorem PySem.Challenge.cw_overbar_k11_spans_are_sets_of_minutes_holds : PySem.Challenge.rw_overbar_k11_spans_are_sets_of_minutes.Holds := by
  w_on; o_law
  refine HandSHeadRun.head_any (r := OpenLaw.row PySem.Challenge.rw_overbar_k11_spans_are_sets_of_minutes) (q := view (OpenLaw.row PySem.Challenge.rw_overbar_k11_spans_are_sets_of_minutes).prog [22]) (H := K11.hk) (ob := K11.ob) (M := 1780) (loose := K11.loose) (d := HandSHeadRun.topDef (OpenLaw.row PySem.Challenge.rw_overbar_k11_spans_are_sets_of_minutes).prog 22) (kwd := []) K11.ob_eq
    (by kernel_rfl) (fun s => by kernel_rfl) K11.run (by kernel_rfl) (by kernel_rfl) (by kernel_rfl) (by rfl) (by first | assumption | decide +kernel) (by decide +kernel) ⟨rfl, rfl, rfl, rfl, rfl, by decide +kernel⟩ ?hw ?hc
  case hw => w_witness2
  case hc =>
    refine L2.walk_ofE (l := PySem.Challenge.rw_overbar_k11_spans_are_sets_of_minutes) (n := 63) (k := 4) (x := "script") (CX := L2.CX0) rfl (by decide) (by kernel_rfl) ⟨rfl, by decide, by decide⟩ ?F ?G
    case G => exact fun _ _ _ _ z => z
    case F =>
      intro w mg fa h Y G hmg0
      obtain ⟨K, KX, c⟩ := Y
      have hmg : mg ("law" : PySem.Str) = some (.ref fa) := by
        have e : (HandSHeadRun.topDef (OpenLaw.row PySem.Challenge.rw_overbar_k11_spans_are_sets_of_minutes).prog 22).name = ("law" : PySem.Str) := by kernel_rfl
        rw [← e]
        exact hmg0
      obtain ⟨fd, hb, hF⟩ := K11.facts (P := (PySem.Challenge.rw_overbar_k11_spans_are_sets_of_minutes).prog) (w := w) KX G hmg c
      exact ⟨K, fd, fun vs H Q _ => PD.spF (K11.gc K) K11.F_law vs H Q fun _ _ _ => False, KX, hb, fun H a ns hl _ hS => PD.law_sp hS (K11.law_ok ns hl), fun base h1 h2 => PD.fnOk0 (hF base h1 h2)⟩
