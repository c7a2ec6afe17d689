import PyProof.Rows.All
import Wide.All
import OpenK.AllK
import Wide.FinOn
import PySem.Challenge.RW_overbar_k12_checked_spans_and_their_text
import HandS.ForMost
import HandS.Exc
import HandS.TryOnly
import KE.DataEq
import KE.DataCmp
import KE.DataMinMax
import KE.DataIsa
import KE.DataFind
import KE.SortData
import HandS.StrMore
import HandS.Small
import HandS.Deep
import HandS.CallSlots
import HandS.Flow
import HandS.Head4
import HandS.HeadHook2
import HandS.Defaults
import HandS.HeadEnd
import HandS.HeadHook1
import HandS.IsInst
import HandS.TryMany
import HandS.Text
import HandS.ExcIs
import HandS.HeadHook3
import HandS.HeadHook4
import HandS.Codes
import HandS.Head0
import HandS.Head1
import HandS.Head2
set_option Elab.async false
set_option linter.all false
set_option maxRecDepth 100000
set_option maxHeartbeats 8000000
/-! P, part 0: data D, and how a value of the abstract heap bears it. -/
namespace PD
open PySem L2

inductive Fl | f | o | oo | l | ll | k
  deriving DecidableEq

/-- data, as the pure evaluator sees it; a mutable node bears who may write it: f nobody (frozen), o its one holder (children frozen), oo its one holder (children may be owned), l, ll lent for a while, k locked (the script, a constant of the top) -/
inductive D where
  | non | bl (b : Bool) | int (i : Int) | str (s : Str)
  | tup (xs : List D)
  | lst (m : Fl) (xs : List D)
  | dic (m : Fl) (kvs : List (Key × D))
  | dit (m : Fl) (kvs : List (List Key × D))
  | ins (m : Fl) (c : Nat) (fs : List (Nat × D))
  | exc (c : Nat) (fs : List (Nat × D))

def isF : D → Bool
  | .lst m _ => m == .f || m == .k
  | .dic m _ => m == .f
  | .dit m _ => m == .f
  | .ins m _ _ => m == .f
  | .exc _ _ => false
  | _ => true

mutual
/-- nobody writes it any more -/
def frz : D → D
  | .lst m xs => match m with | .oo => .lst .f (frzL xs) | .k => .lst .k xs | _ => .lst .f xs
  | .dic m kvs => .dic .f (match m with | .oo => frzK kvs | _ => kvs)
  | .dit _ kvs => .dit .f kvs
  | .ins m c fs => .ins .f c (match m with | .f => fs | _ => frzN fs)
  | d => d
def frzL : List D → List D
  | [] => []
  | d :: r => frz d :: frzL r
def frzK : List (Key × D) → List (Key × D)
  | [] => []
  | (k, d) :: r => (k, frz d) :: frzK r
def frzN : List (Nat × D) → List (Nat × D)
  | [] => []
  | (k, d) :: r => (k, frz d) :: frzN r
end
mutual
/-- read by others for a while -/
def lend : D → D
  | .lst m xs => match m with | .o => .lst .l xs | .oo => .lst .ll (lendL xs) | m => .lst m xs
  | .dic m kvs => match m with | .o => .dic .l kvs | .oo => .dic .ll (lendK kvs) | m => .dic m kvs
  | .dit m kvs => match m with | .o => .dit .l kvs | m => .dit m kvs
  | .ins m c fs => match m with | .oo => .ins .ll c (lendN fs) | m => .ins m c fs
  | d => d
def lendL : List D → List D
  | [] => []
  | d :: r => lend d :: lendL r
def lendK : List (Key × D) → List (Key × D)
  | [] => []
  | (k, d) :: r => (k, lend d) :: lendK r
def lendN : List (Nat × D) → List (Nat × D)
  | [] => []
  | (k, d) :: r => (k, lend d) :: lendN r
end
theorem frzL_eq : ∀ xs : List D, frzL xs = xs.map frz
  | [] => rfl
  | d :: r => by rw [frzL, frzL_eq r]; rfl
theorem frzK_eq : ∀ xs : List (Key × D), frzK xs = xs.map fun p => (p.1, frz p.2)
  | [] => rfl
  | (k, d) :: r => by rw [frzK, frzK_eq r]; rfl
theorem frzN_eq : ∀ xs : List (Nat × D), frzN xs = xs.map fun p => (p.1, frz p.2)
  | [] => rfl
  | (k, d) :: r => by rw [frzN, frzN_eq r]; rfl
theorem lendL_eq : ∀ xs : List D, lendL xs = xs.map lend
  | [] => rfl
  | d :: r => by rw [lendL, lendL_eq r]; rfl
theorem lendK_eq : ∀ xs : List (Key × D), lendK xs = xs.map fun p => (p.1, lend p.2)
  | [] => rfl
  | (k, d) :: r => by rw [lendK, lendK_eq r]; rfl
theorem lendN_eq : ∀ xs : List (Nat × D), lendN xs = xs.map fun p => (p.1, lend p.2)
  | [] => rfl
  | (k, d) :: r => by rw [lendN, lendN_eq r]; rfl

/-- what of the text is written: K, the classes by number, the attributes' names by number -/
structure GC where
  K : PySem.W.Frag
  cls : Nat → Addr
  fld : Nat → Str

abbrev AS := Addr → Prop
def S0 : AS := fun _ => False
/-- a list, a tuple of the written part -/
def KwL (K : PySem.W.Frag) (a : Addr) (xs : List V) : Prop :=
  ∃ (o : Obj) (its : Array Value) (n : Nat), K.lookup a = some o ∧ o.cls = .type "list" ∧ o.dict = none ∧ o.data = .seq its n ∧ its.size ≤ sizeLine ∧ Vals xs its.toList
def KwT (K : PySem.W.Frag) (a : Addr) (xs : List V) : Prop :=
  ∃ (o : Obj) (its : Array Value) (n : Nat), K.lookup a = some o ∧ o.cls = .type "tuple" ∧ o.data = .seq its n ∧ its.size ≤ sizeLine ∧ Vals xs its.toList
/-- element by element -/
def El {α β : Type} (R : α → β → Prop) (xs : List α) (ys : List β) : Prop := xs.length = ys.length ∧ ∀ (i : Nat) x y, xs[i]? = some x → ys[i]? = some y → R x y

/-- frozen data: all that it reaches lies in Z -/
inductive RepF (G : GC) (Z : AS) (H : Hp) : D → V → Prop
  | non : RepF G Z H .non .non
  | bl (b : Bool) : RepF G Z H (.bl b) (.bl b)
  | int (i : Int) : RepF G Z H (.int i) (.int i)
  | str (s : Str) : RepF G Z H (.str s) (.str s)
  | tup {a : Addr} {xs : List D} {vs : List V} (h : (Z a ∧ Rd H a (.tup vs)) ∨ KwT G.K a vs) (hl : xs.length = vs.length) (he : ∀ (i : Nat) d v, xs[i]? = some d → vs[i]? = some v → RepF G Z H d v) : RepF G Z H (.tup xs) (.ref a)
  | lsk {a : Addr} {xs : List D} {vs : List V} (h : (Z a ∧ Rd H a (.lst vs)) ∨ KwL G.K a vs) (hl : xs.length = vs.length) (he : ∀ (i : Nat) d v, xs[i]? = some d → vs[i]? = some v → RepF G Z H d v) : RepF G Z H (.lst .k xs) (.ref a)
  | lst {a : Addr} {xs : List D} {vs : List V} (z : Z a) (h : H a = some (.lst vs)) (hl : xs.length = vs.length) (he : ∀ (i : Nat) d v, xs[i]? = some d → vs[i]? = some v → RepF G Z H d v) : RepF G Z H (.lst .f xs) (.ref a)
  | dic {a : Addr} {kvs : List (Key × D)} {ws : List (Key × V)} (z : Z a) (h : H a = some (.dK ws)) (hl : kvs.map (·.1) = ws.map (·.1)) (he : ∀ (i : Nat) p q, kvs[i]? = some p → ws[i]? = some q → RepF G Z H p.2 q.2) : RepF G Z H (.dic .f kvs) (.ref a)
  | dit {a : Addr} {kvs : List (List Key × D)} {ws : List (List Key × V)} (z : Z a) (h : H a = some (.dT ws)) (hl : kvs.map (·.1) = ws.map (·.1)) (he : ∀ (i : Nat) p q, kvs[i]? = some p → ws[i]? = some q → RepF G Z H p.2 q.2) : RepF G Z H (.dit .f kvs) (.ref a)
  | ins {a dx : Addr} {c : Nat} {fs : List (Nat × D)} {gs : List (Str × V)} (z : Z a) (h : H a = some (.ins (G.cls c) dx gs)) (hl : fs.map (fun p => G.fld p.1) = gs.map (·.1)) (he : ∀ (i : Nat) p q, fs[i]? = some p → gs[i]? = some q → RepF G Z H p.2 q.2) : RepF G Z H (.ins .f c fs) (.ref a)

/-- data with the addresses A that its holder owns; S: what is lent -/
inductive Rep (G : GC) (Z S : AS) (H : Hp) : D → V → AS → Prop
  | fz {d : D} {v : V} {A : AS} (h : RepF G Z H d v) (hA : ∀ x, ¬ A x) : Rep G Z S H d v A
  | lo {a : Addr} {xs : List D} {vs : List V} {A : AS} (h : H a = some (.lst vs)) (hl : xs.length = vs.length) (he : ∀ (i : Nat) d v, xs[i]? = some d → vs[i]? = some v → RepF G Z H d v) (hA : ∀ x, A x ↔ x = a) : Rep G Z S H (.lst .o xs) (.ref a) A
  | loo {a : Addr} {xs : List D} {vs : List V} {A : AS} (B : Nat → AS) (h : H a = some (.lst vs)) (hl : xs.length = vs.length) (he : ∀ (i : Nat) d v, xs[i]? = some d → vs[i]? = some v → Rep G Z S H d v (B i))
      (hd : ∀ i j x, B i x → B j x → i = j) (hn : ∀ i, ¬ B i a) (ho : ∀ i x, B i x → i < xs.length) (hA : ∀ x, A x ↔ (x = a ∨ ∃ i, B i x)) : Rep G Z S H (.lst .oo xs) (.ref a) A
  | ll {a : Addr} {xs : List D} {vs : List V} {A : AS} (s : S a) (h : H a = some (.lst vs)) (hl : xs.length = vs.length) (he : ∀ (i : Nat) d v, xs[i]? = some d → vs[i]? = some v → RepF G Z H d v) (hA : ∀ x, ¬ A x) : Rep G Z S H (.lst .l xs) (.ref a) A
  | lll {a : Addr} {xs : List D} {vs : List V} {A : AS} (s : S a) (h : H a = some (.lst vs)) (hl : xs.length = vs.length) (he : ∀ (i : Nat) d v, xs[i]? = some d → vs[i]? = some v → Rep G Z S H d v S0) (hA : ∀ x, ¬ A x) : Rep G Z S H (.lst .ll xs) (.ref a) A
  | dco {a : Addr} {xs : List (Key × D)} {ws : List (Key × V)} {A : AS} (h : H a = some (.dK ws)) (hl : xs.map (·.1) = ws.map (·.1)) (he : ∀ (i : Nat) p q, xs[i]? = some p → ws[i]? = some q → RepF G Z H p.2 q.2) (hA : ∀ x, A x ↔ x = a) : Rep G Z S H (.dic .o xs) (.ref a) A
  | dcoo {a : Addr} {xs : List (Key × D)} {ws : List (Key × V)} {A : AS} (B : Nat → AS) (h : H a = some (.dK ws)) (hl : xs.map (·.1) = ws.map (·.1)) (he : ∀ (i : Nat) p q, xs[i]? = some p → ws[i]? = some q → Rep G Z S H p.2 q.2 (B i))
      (hd : ∀ i j x, B i x → B j x → i = j) (hn : ∀ i, ¬ B i a) (ho : ∀ i x, B i x → i < xs.length) (hA : ∀ x, A x ↔ (x = a ∨ ∃ i, B i x)) : Rep G Z S H (.dic .oo xs) (.ref a) A
  | dcl {a : Addr} {xs : List (Key × D)} {ws : List (Key × V)} {A : AS} (s : S a) (h : H a = some (.dK ws)) (hl : xs.map (·.1) = ws.map (·.1)) (he : ∀ (i : Nat) p q, xs[i]? = some p → ws[i]? = some q → RepF G Z H p.2 q.2) (hA : ∀ x, ¬ A x) : Rep G Z S H (.dic .l xs) (.ref a) A
  | dcll {a : Addr} {xs : List (Key × D)} {ws : List (Key × V)} {A : AS} (s : S a) (h : H a = some (.dK ws)) (hl : xs.map (·.1) = ws.map (·.1)) (he : ∀ (i : Nat) p q, xs[i]? = some p → ws[i]? = some q → Rep G Z S H p.2 q.2 S0) (hA : ∀ x, ¬ A x) : Rep G Z S H (.dic .ll xs) (.ref a) A
  | dto {a : Addr} {xs : List (List Key × D)} {ws : List (List Key × V)} {A : AS} (h : H a = some (.dT ws)) (hl : xs.map (·.1) = ws.map (·.1)) (he : ∀ (i : Nat) p q, xs[i]? = some p → ws[i]? = some q → RepF G Z H p.2 q.2) (hA : ∀ x, A x ↔ x = a) : Rep G Z S H (.dit .o xs) (.ref a) A
  | dtl {a : Addr} {xs : List (List Key × D)} {ws : List (List Key × V)} {A : AS} (s : S a) (h : H a = some (.dT ws)) (hl : xs.map (·.1) = ws.map (·.1)) (he : ∀ (i : Nat) p q, xs[i]? = some p → ws[i]? = some q → RepF G Z H p.2 q.2) (hA : ∀ x, ¬ A x) : Rep G Z S H (.dit .l xs) (.ref a) A
  | ioo {a dx : Addr} {c : Nat} {xs : List (Nat × D)} {ws : List (Str × V)} {A : AS} (B : Nat → AS) (h : H a = some (.ins (G.cls c) dx ws)) (hl : xs.map (fun p => G.fld p.1) = ws.map (·.1)) (he : ∀ (i : Nat) p q, xs[i]? = some p → ws[i]? = some q → Rep G Z S H p.2 q.2 (B i))
      (hd : ∀ i j x, B i x → B j x → i = j) (hn : ∀ i, ¬ B i a) (ho : ∀ i x, B i x → i < xs.length) (hA : ∀ x, A x ↔ (x = a ∨ ∃ i, B i x)) : Rep G Z S H (.ins .oo c xs) (.ref a) A
  | ill {a dx : Addr} {c : Nat} {xs : List (Nat × D)} {ws : List (Str × V)} {A : AS} (s : S a) (h : H a = some (.ins (G.cls c) dx ws)) (hl : xs.map (fun p => G.fld p.1) = ws.map (·.1)) (he : ∀ (i : Nat) p q, xs[i]? = some p → ws[i]? = some q → Rep G Z S H p.2 q.2 S0) (hA : ∀ x, ¬ A x) : Rep G Z S H (.ins .ll c xs) (.ref a) A

section
variable {G : GC} {Z Z' S S' : AS} {H H' : Hp}
theorem Rd.keep {a : Addr} {u : HO} (k : ∀ o, H a = some o → H' a = some o) (r : Rd H a u) : Rd H' a u := by
  rcases r with r | ⟨o, r⟩
  · exact .inl (k _ r)
  · exact .inr ⟨o, k _ r⟩
theorem RepF.mono (hz : ∀ a, Z a → Z' a) (k : ∀ a, Z a → ∀ o, H a = some o → H' a = some o) {d : D} {v : V} (r : RepF G Z H d v) : RepF G Z' H' d v := by
  induction r with
  | non => exact .non
  | bl b => exact .bl b
  | int i => exact .int i
  | str s => exact .str s
  | tup h hl he ih => exact .tup (h.imp (fun ⟨z, q⟩ => ⟨hz _ z, Rd.keep (k _ z) q⟩) id) hl ih
  | lsk h hl he ih => exact .lsk (h.imp (fun ⟨z, q⟩ => ⟨hz _ z, Rd.keep (k _ z) q⟩) id) hl ih
  | lst z h hl he ih => exact .lst (hz _ z) (k _ z _ h) hl ih
  | dic z h hl he ih => exact .dic (hz _ z) (k _ z _ h) hl ih
  | dit z h hl he ih => exact .dit (hz _ z) (k _ z _ h) hl ih
  | ins z h hl he ih => exact .ins (hz _ z) (k _ z _ h) hl ih
theorem Rep.mono {d : D} {v : V} {A : AS} (r : Rep G Z S H d v A) : ∀ (hz : ∀ a, Z a → Z' a) (hs : ∀ a, S a → S' a) (k : ∀ a, (Z a ∨ S a ∨ A a) → ∀ o, H a = some o → H' a = some o), Rep G Z' S' H' d v A := by
  induction r with
  | fz h hA => exact fun hz hs k => .fz (h.mono hz fun a z => k a (.inl z)) hA
  | lo h hl he hA => exact fun hz hs k => .lo (k _ (.inr (.inr ((hA _).mpr rfl))) _ h) hl (fun i d v e1 e2 => (he i d v e1 e2).mono hz fun a z => k a (.inl z)) hA
  | loo B h hl he hd hn ho hA ih => exact fun hz hs k => .loo B (k _ (.inr (.inr ((hA _).mpr (.inl rfl)))) _ h) hl (fun i d v e1 e2 => ih i d v e1 e2 hz hs fun a z => k a (z.imp id (·.imp id fun q => (hA _).mpr (.inr ⟨i, q⟩)))) hd hn ho hA
  | ll s h hl he hA => exact fun hz hs k => .ll (hs _ s) (k _ (.inr (.inl s)) _ h) hl (fun i d v e1 e2 => (he i d v e1 e2).mono hz fun a z => k a (.inl z)) hA
  | lll s h hl he hA ih => exact fun hz hs k => .lll (hs _ s) (k _ (.inr (.inl s)) _ h) hl (fun i d v e1 e2 => ih i d v e1 e2 hz hs fun a z => k a (z.imp id (·.imp id fun q => q.elim))) hA
  | dco h hl he hA => exact fun hz hs k => .dco (k _ (.inr (.inr ((hA _).mpr rfl))) _ h) hl (fun i d v e1 e2 => (he i d v e1 e2).mono hz fun a z => k a (.inl z)) hA
  | dcoo B h hl he hd hn ho hA ih => exact fun hz hs k => .dcoo B (k _ (.inr (.inr ((hA _).mpr (.inl rfl)))) _ h) hl (fun i d v e1 e2 => ih i d v e1 e2 hz hs fun a z => k a (z.imp id (·.imp id fun q => (hA _).mpr (.inr ⟨i, q⟩)))) hd hn ho hA
  | dcl s h hl he hA => exact fun hz hs k => .dcl (hs _ s) (k _ (.inr (.inl s)) _ h) hl (fun i d v e1 e2 => (he i d v e1 e2).mono hz fun a z => k a (.inl z)) hA
  | dcll s h hl he hA ih => exact fun hz hs k => .dcll (hs _ s) (k _ (.inr (.inl s)) _ h) hl (fun i d v e1 e2 => ih i d v e1 e2 hz hs fun a z => k a (z.imp id (·.imp id fun q => q.elim))) hA
  | dto h hl he hA => exact fun hz hs k => .dto (k _ (.inr (.inr ((hA _).mpr rfl))) _ h) hl (fun i d v e1 e2 => (he i d v e1 e2).mono hz fun a z => k a (.inl z)) hA
  | dtl s h hl he hA => exact fun hz hs k => .dtl (hs _ s) (k _ (.inr (.inl s)) _ h) hl (fun i d v e1 e2 => (he i d v e1 e2).mono hz fun a z => k a (.inl z)) hA
  | ioo B h hl he hd hn ho hA ih => exact fun hz hs k => .ioo B (k _ (.inr (.inr ((hA _).mpr (.inl rfl)))) _ h) hl (fun i d v e1 e2 => ih i d v e1 e2 hz hs fun a z => k a (z.imp id (·.imp id fun q => (hA _).mpr (.inr ⟨i, q⟩)))) hd hn ho hA
  | ill s h hl he hA ih => exact fun hz hs k => .ill (hs _ s) (k _ (.inr (.inl s)) _ h) hl (fun i d v e1 e2 => ih i d v e1 e2 hz hs fun a z => k a (z.imp id (·.imp id fun q => q.elim))) hA
theorem Rep.own {d : D} {v : V} {A : AS} (r : Rep G Z S H d v A) : ∀ x, A x → ∃ o, H x = some o := by
  have two : ∀ {α β γ : Type} {f : α → γ} {g : β → γ} {xs : List α} {ys : List β} {i : Nat}, xs.map f = ys.map g → i < xs.length → ∃ p q, xs[i]? = some p ∧ ys[i]? = some q := fun {α β γ f g xs ys i} e h => by
    have l : xs.length = ys.length := by simpa using congrArg List.length e
    have h2 : i < ys.length := l ▸ h
    exact ⟨xs[i], ys[i], by simp [h], by simp [h2]⟩
  induction r with
  | fz h hA => exact fun x z => (hA x z).elim
  | lo h hl he hA => exact fun x z => by rw [(hA x).mp z]; exact ⟨_, h⟩
  | @loo a xs vs A B h hl he hd hn ho hA ih =>
    intro x z
    rcases (hA x).mp z with z | ⟨i, z⟩
    · rw [z]; exact ⟨_, h⟩
    · have l1 := ho i x z
      have l2 : i < vs.length := hl ▸ l1
      exact ih i xs[i] vs[i] (by simp [l1]) (by simp [l2]) x z
  | ll s h hl he hA => exact fun x z => (hA x z).elim
  | lll s h hl he hA ih => exact fun x z => (hA x z).elim
  | dco h hl he hA => exact fun x z => by rw [(hA x).mp z]; exact ⟨_, h⟩
  | dcoo B h hl he hd hn ho hA ih =>
    intro x z
    rcases (hA x).mp z with z | ⟨i, z⟩
    · rw [z]; exact ⟨_, h⟩
    · obtain ⟨p, q, e1, e2⟩ := two hl (ho i x z)
      exact ih i p q e1 e2 x z
  | dcl s h hl he hA => exact fun x z => (hA x z).elim
  | dcll s h hl he hA ih => exact fun x z => (hA x z).elim
  | dto h hl he hA => exact fun x z => by rw [(hA x).mp z]; exact ⟨_, h⟩
  | dtl s h hl he hA => exact fun x z => (hA x z).elim
  | ioo B h hl he hd hn ho hA ih =>
    intro x z
    rcases (hA x).mp z with z | ⟨i, z⟩
    · rw [z]; exact ⟨_, h⟩
    · obtain ⟨p, q, e1, e2⟩ := two hl (ho i x z)
      exact ih i p q e1 e2 x z
  | ill s h hl he hA ih => exact fun x z => (hA x z).elim
/-- the same addresses, told otherwise -/
theorem Rep.congr {d : D} {v : V} {A A' : AS} (r : Rep G Z S H d v A) (h : ∀ x, A' x ↔ A x) : Rep G Z S H d v A' := by
  have e : A' = A := funext fun x => propext (h x)
  rw [e]; exact r
theorem Rep.frozen {d : D} {v : V} {A : AS} (r : Rep G Z S H d v A) (h : isF d = true) : RepF G Z H d v ∧ ∀ x, ¬ A x := by
  cases r <;> first | exact ⟨by assumption, by assumption⟩ | (exact absurd (show false = true from h) Bool.false_ne_true)
theorem getMap {α β : Type} {f : α → β} {xs : List α} {i : Nat} {y : β} (h : (xs.map f)[i]? = some y) : ∃ x, xs[i]? = some x ∧ f x = y := by
  rw [List.getElem?_map] at h
  cases e : xs[i]? with
  | none => rw [e] at h; cases h
  | some x => rw [e] at h; exact ⟨x, rfl, Option.some.inj h⟩
/-- freezing: what is owned goes to Z -/
theorem Rep.freeze {d : D} {v : V} {A : AS} (r : Rep G Z S0 H d v A) : RepF G (fun x => Z x ∨ A x) H (frz d) v := by
  generalize hS : S0 = S' at r
  have mz : ∀ {A : AS} {d v}, RepF G Z H d v → RepF G (fun x => Z x ∨ A x) H d v := fun q => q.mono (fun _ z => .inl z) fun _ _ _ e => e
  have nf : ∀ {d v}, RepF G Z H d v → frz d = d := fun q => by cases q <;> rfl
  induction r with
  | fz h hA => rw [nf h]; exact mz h
  | lo h hl he hA => exact .lst (.inr ((hA _).mpr rfl)) h hl fun i d v e1 e2 => mz (he i d v e1 e2)
  | @loo a xs vs A B h hl he hd hn ho hA ih =>
    show RepF _ _ _ (.lst .f (frzL xs)) _
    rw [frzL_eq]
    refine .lst (.inr ((hA _).mpr (.inl rfl))) h (by simpa using hl) fun i d v e1 e2 => ?_
    obtain ⟨x, ex, rfl⟩ := getMap e1
    exact (ih i x v ex e2).mono (fun y z => z.imp id fun q => (hA _).mpr (.inr ⟨i, q⟩)) fun _ _ _ e => e
  | ll s h hl he hA => rw [← hS] at s; exact s.elim
  | lll s h hl he hA ih => rw [← hS] at s; exact s.elim
  | dco h hl he hA => exact .dic (.inr ((hA _).mpr rfl)) h hl fun i d v e1 e2 => mz (he i d v e1 e2)
  | @dcoo a xs ws A B h hl he hd hn ho hA ih =>
    show RepF _ _ _ (.dic .f (frzK xs)) _
    rw [frzK_eq]
    refine .dic (.inr ((hA _).mpr (.inl rfl))) h (by rw [← hl, List.map_map]; rfl) fun i d v e1 e2 => ?_
    obtain ⟨x, ex, rfl⟩ := getMap e1
    exact (ih i x v ex e2).mono (fun y z => z.imp id fun q => (hA _).mpr (.inr ⟨i, q⟩)) fun _ _ _ e => e
  | dcl s h hl he hA => rw [← hS] at s; exact s.elim
  | dcll s h hl he hA ih => rw [← hS] at s; exact s.elim
  | dto h hl he hA => exact .dit (.inr ((hA _).mpr rfl)) h hl fun i d v e1 e2 => mz (he i d v e1 e2)
  | dtl s h hl he hA => rw [← hS] at s; exact s.elim
  | @ioo a dx c xs ws A B h hl he hd hn ho hA ih =>
    show RepF _ _ _ (.ins .f c (frzN xs)) _
    rw [frzN_eq]
    refine .ins (.inr ((hA _).mpr (.inl rfl))) h (by rw [← hl, List.map_map]; rfl) fun i d v e1 e2 => ?_
    obtain ⟨x, ex, rfl⟩ := getMap e1
    exact (ih i x v ex e2).mono (fun y z => z.imp id fun q => (hA _).mpr (.inr ⟨i, q⟩)) fun _ _ _ e => e
  | ill s h hl he hA ih => rw [← hS] at s; exact s.elim
/-- lending: what is owned is lent -/
theorem Rep.lent {d : D} {v : V} {A : AS} (r : Rep G Z S H d v A) : Rep G Z (fun x => S x ∨ A x) H (lend d) v S0 := by
  have nf : ∀ {d v}, RepF G Z H d v → lend d = d := fun q => by cases q <;> rfl
  have up : ∀ {A B : AS} {d v}, (∀ x, B x → A x) → Rep G Z (fun x => S x ∨ B x) H d v S0 → Rep G Z (fun x => S x ∨ A x) H d v S0 := fun h q => q.mono (fun _ z => z) (fun _ z => z.imp id (h _)) fun _ _ _ e => e
  have n0 : ∀ x, ¬ S0 x := fun x h => h
  induction r with
  | fz h hA => rw [nf h]; exact .fz h n0
  | lo h hl he hA => exact .ll (.inr ((hA _).mpr rfl)) h hl he n0
  | @loo a xs vs A B h hl he hd hn ho hA ih =>
    show Rep _ _ _ _ (.lst .ll (lendL xs)) _ _
    rw [lendL_eq]
    refine .lll (.inr ((hA _).mpr (.inl rfl))) h (by simpa using hl) (fun i d v e1 e2 => ?_) n0
    obtain ⟨x, ex, rfl⟩ := getMap e1
    exact up (fun y q => (hA _).mpr (.inr ⟨i, q⟩)) (ih i x v ex e2)
  | ll s h hl he hA => exact .ll (.inl s) h hl he n0
  | lll s h hl he hA ih => exact .lll (.inl s) h hl (fun i d v e1 e2 => (he i d v e1 e2).mono (fun _ z => z) (fun _ z => .inl z) fun _ _ _ e => e) n0
  | dco h hl he hA => exact .dcl (.inr ((hA _).mpr rfl)) h hl he n0
  | @dcoo a xs ws A B h hl he hd hn ho hA ih =>
    show Rep _ _ _ _ (.dic .ll (lendK xs)) _ _
    rw [lendK_eq]
    refine .dcll (.inr ((hA _).mpr (.inl rfl))) h (by rw [← hl, List.map_map]; rfl) (fun i d v e1 e2 => ?_) n0
    obtain ⟨x, ex, rfl⟩ := getMap e1
    exact up (fun y q => (hA _).mpr (.inr ⟨i, q⟩)) (ih i x v ex e2)
  | dcl s h hl he hA => exact .dcl (.inl s) h hl he n0
  | dcll s h hl he hA ih => exact .dcll (.inl s) h hl (fun i d v e1 e2 => (he i d v e1 e2).mono (fun _ z => z) (fun _ z => .inl z) fun _ _ _ e => e) n0
  | dto h hl he hA => exact .dtl (.inr ((hA _).mpr rfl)) h hl he n0
  | dtl s h hl he hA => exact .dtl (.inl s) h hl he n0
  | @ioo a dx c xs ws A B h hl he hd hn ho hA ih =>
    show Rep _ _ _ _ (.ins .ll c (lendN xs)) _ _
    rw [lendN_eq]
    refine .ill (.inr ((hA _).mpr (.inl rfl))) h (by rw [← hl, List.map_map]; rfl) (fun i d v e1 e2 => ?_) n0
    obtain ⟨x, ex, rfl⟩ := getMap e1
    exact up (fun y q => (hA _).mpr (.inr ⟨i, q⟩)) (ih i x v ex e2)
  | ill s h hl he hA ih => exact .ill (.inl s) h hl (fun i d v e1 e2 => (he i d v e1 e2).mono (fun _ z => z) (fun _ z => .inl z) fun _ _ _ e => e) n0
end
end PD
/-! P, part 1: states, steps, readings of expressions and of arguments. -/
namespace PD
open PySem L2

abbrev DS := List (Option D)
structure Xc where
  c : Nat
  fs : List (Nat × D)
inductive RR (α : Type) where
  | ok (a : α)
  | ex (x : Xc)
abbrev ER := RR D × DS
abbrev EA := RR (List D) × DS

def Own (FS : Nat → AS) : AS := fun x => ∃ i, FS i x

structure Step (H : Hp) (Z P : AS) (H' : Hp) (Z' P' : AS) : Prop where
  keep : ∀ a o, H a = some o → ¬ P a → H' a = some o
  there : ∀ a o, H a = some o → ∃ o', H' a = some o'
  zin : ∀ a, Z a → Z' a
  znew : ∀ a, Z' a → Z a ∨ P a ∨ H a = none
  pnew : ∀ a, P' a → P a ∨ H a = none
theorem Step.refl (H : Hp) (Z P : AS) : Step H Z P H Z P := ⟨fun _ _ e _ => e, fun _ o e => ⟨o, e⟩, fun _ z => z, fun _ z => .inl z, fun _ z => .inl z⟩
theorem Step.trans {H H1 H2 : Hp} {Z Z1 Z2 P P1 P2 : AS} (a : Step H Z P H1 Z1 P1) (b : Step H1 Z1 P1 H2 Z2 P2) : Step H Z P H2 Z2 P2 where
  keep := fun x o e n => b.keep x o (a.keep x o e n) fun z => (a.pnew x z).elim n fun q => by rw [q] at e; cases e
  there := fun x o e => let ⟨o1, e1⟩ := a.there x o e; b.there x o1 e1
  zin := fun x z => b.zin x (a.zin x z)
  znew := fun x z => by
    have back : H1 x = none → H x = none := fun q => by
      cases e : H x with
      | none => rfl
      | some o => obtain ⟨o', e'⟩ := a.there x o e; rw [e'] at q; cases q
    rcases b.znew x z with z | z | z
    · exact a.znew x z
    · exact (a.pnew x z).elim (fun q => .inr (.inl q)) fun q => .inr (.inr q)
    · exact .inr (.inr (back z))
  pnew := fun x z => by
    rcases b.pnew x z with z | z
    · exact a.pnew x z
    · refine .inr ?_
      cases e : H x with
      | none => rfl
      | some o => obtain ⟨o', e'⟩ := a.there x o e; rw [e'] at z; cases z
theorem Step.same {H H' : Hp} {Z P P' : AS} (s : Same H H') (h : ∀ a, P' a → P a ∨ H a = none) : Step H Z P H' Z P' := ⟨fun a o e _ => s a o e, fun a o e => ⟨o, s a o e⟩, fun _ z => z, fun _ z => .inl z, h⟩
theorem Step.sub {H H' : Hp} {Z Z' P P' P2 : AS} (s : Step H Z P H' Z' P') (h : ∀ a, P2 a → P' a) : Step H Z P H' Z' P2 := { s with pnew := fun a z => s.pnew a (h a z) }
/-- more is held ahead -/
theorem Step.up {H H' : Hp} {Z Z' P P' P1 : AS} (s : Step H Z P H' Z' P') (h : ∀ a, P a → P1 a) : Step H Z P1 H' Z' P' :=
  { keep := fun a o e n => s.keep a o e fun z => n (h a z), there := s.there, zin := s.zin, znew := fun a z => (s.znew a z).imp id (·.imp (h a) id), pnew := fun a z => (s.pnew a z).imp (h a) id }

/-- the slots' data: FS i is what slot i owns, S i what is lent to it -/
structure SR (G : GC) (Z : AS) (S : Nat → AS) (H : Hp) (δ : DS) (σ : St) (FS : Nat → AS) : Prop where
  len : δ.length = σ.length
  slot : ∀ (i : Nat) d, δ[i]? = some (some d) → ∃ v, σ[i]? = some (some v) ∧ Rep G Z (S i) H d v (FS i)
  empt : ∀ (i : Nat), (∀ d, δ[i]? ≠ some (some d)) → ∀ x, ¬ FS i x
  disj : ∀ i j x, FS i x → FS j x → i = j
  zs : ∀ a, Z a → ∃ o, H a = some o
  ss : ∀ a, Own S a → ∃ o, H a = some o
  nz : ∀ a, Own FS a → ¬ Z a ∧ ¬ Own S a
section
variable {G : GC} {Z Z' : AS} {H H' : Hp} {δ δ' : DS} {σ : St} {FS FS' : Nat → AS} {d : D} {v : V} {A P P' : AS}
theorem SR.own {S : Nat → AS} (r : SR G Z S H δ σ FS) : ∀ x, Own FS x → ∃ o, H x = some o := fun x ⟨i, h⟩ => by
  cases e : δ[i]? with
  | none => exact (r.empt i (fun d q => by rw [e] at q; cases q) x h).elim
  | some q =>
    cases q with
    | none => exact (r.empt i (fun d q => by rw [e] at q; cases q) x h).elim
    | some d =>
      obtain ⟨v, _, rp⟩ := r.slot i d e
      exact rp.own x h
/-- a value that lies outside of what is held stays through a step -/
theorem Rep.step {S : AS} (r : Rep G Z S H d v A) (s : Step H Z P H' Z' P') (hz : ∀ a, P a → ¬ Z a ∧ ¬ S a) (hA : ∀ a, A a → ¬ P a) : Rep G Z' S H' d v A :=
  r.mono s.zin (fun _ z => z) fun a z o e => s.keep a o e fun p => by
    rcases z with z | z | z
    · exact (hz a p).1 z
    · exact (hz a p).2 z
    · exact hA a z p
theorem RepF.step (r : RepF G Z H d v) (s : Step H Z P H' Z' P') (hz : ∀ a, P a → ¬ Z a) : RepF G Z' H' d v :=
  r.mono s.zin fun a z o e => s.keep a o e fun p => hz a p z
theorem Rep.same {S : AS} (r : Rep G Z S H d v A) (s : Same H H') : Rep G Z S H' d v A := r.mono (fun _ z => z) (fun _ z => z) fun a _ o e => s a o e
theorem RepF.same (r : RepF G Z H d v) (s : Same H H') : RepF G Z H' d v := r.mono (fun _ z => z) fun a _ o e => s a o e
theorem SR.same {S : Nat → AS} (r : SR G Z S H δ σ FS) (s : Same H H') : SR G Z S H' δ σ FS :=
  ⟨r.len, fun i d e => let ⟨v, e1, rp⟩ := r.slot i d e; ⟨v, e1, rp.same s⟩, r.empt, r.disj, fun a z => let ⟨o, e⟩ := r.zs a z; ⟨o, s a o e⟩, fun a z => let ⟨o, e⟩ := r.ss a z; ⟨o, s a o e⟩, r.nz⟩
theorem Rep.any {S : Nat → AS} {i : Nat} (r : Rep G Z (S i) H d v A) : Rep G Z (Own S) H d v A := r.mono (fun _ z => z) (fun _ z => ⟨i, z⟩) fun _ _ _ e => e
theorem Rep.s0 {S : AS} (r : Rep G Z S0 H d v A) : Rep G Z S H d v A := r.mono (fun _ z => z) (fun _ z => z.elim) fun _ _ _ e => e
end

/-- an exception told -/
def XR (G : GC) (Z : AS) (H : Hp) (x : Xc) (cls : Value) (dd : Option Addr) : Prop :=
  cls = .ref (G.cls x.c) ∧ ((x.fs = [] ∧ dd = none) ∨ x.fs ≠ [] ∧ ∃ a gs, dd = some a ∧ Z a ∧ H a = some (.xd gs) ∧ x.fs.map (fun p => G.fld p.1) = gs.map (·.1) ∧ ∀ (i : Nat) p q, x.fs[i]? = some p → gs[i]? = some q → RepF G Z H p.2 q.2)

/-- behind an expression -/
structure PostE (G : GC) (S : Nat → AS) (vw qt : Bool) (σ : St) (H : Hp) (Z : AS) (FS : Nat → AS) (d : D) (δ' : DS) (v : V) (H' : Hp) (Z' : AS) (FS' : Nat → AS) (A : AS) : Prop where
  sr : SR G Z' S H' δ' σ FS'
  st : Step H Z (Own FS) H' Z' (fun x => Own FS' x ∨ A x)
  vl : if vw = true then Rep G Z' (Own S) H' d v A ∧ (∀ x, A x → Own FS' x) else Rep G Z' S0 H' d v A ∧ ∀ x, A x → ¬ Z' x ∧ ¬ Own S x ∧ ¬ Own FS' x
  qq : qt = true → FS' = FS ∧ Same H H'
/-- behind an exception -/
structure PostX (G : GC) (S : Nat → AS) (σ : St) (H : Hp) (Z : AS) (FS : Nat → AS) (x : Xc) (δ' : DS) (c : Value) (dd : Option Addr) (H' : Hp) (Z' : AS) (FS' : Nat → AS) : Prop where
  sr : SR G Z' S H' δ' σ FS'
  st : Step H Z (Own FS) H' Z' (Own FS')
  xr : XR G Z' H' x c dd

def rdE (G : GC) (W : WX) (vw qt : Bool) (f : DS → Option ER) : TE := fun σ H Q => ∃ δ Z S FS, SR G Z S H δ σ FS ∧ (∃ r, f δ = some r) ∧
  (∀ d δ', f δ = some (.ok d, δ') → ∀ v H' Z' FS' A, PostE G S vw qt σ H Z FS d δ' v H' Z' FS' A → Q v H') ∧
  (∀ x δ', f δ = some (.ex x, δ') → ∀ c dd H' Z' FS', PostX G S σ H Z FS x δ' c dd H' Z' FS' → W c dd σ H')

/-- the arguments' values: ks tells which are views; the others are held by the list itself -/
structure ArgR (G : GC) (Z S : AS) (H : Hp) (FS : Nat → AS) (ks : List Bool) (ds : List D) (vs : List V) (B : Nat → AS) : Prop where
  l1 : ds.length = vs.length
  l2 : ks.length = ds.length
  rep : ∀ (j : Nat) d v k, ds[j]? = some d → vs[j]? = some v → ks[j]? = some k → if k = true then Rep G Z S H d v (B j) ∧ (∀ x, B j x → Own FS x) else Rep G Z S0 H d v (B j) ∧ ∀ x, B j x → ¬ Z x ∧ ¬ S x ∧ ¬ Own FS x
  disj : ∀ i j x, ks[i]? = some false → ks[j]? = some false → B i x → B j x → i = j
/-- what the list holds -/
def Tm (ks : List Bool) (B : Nat → AS) : AS := fun x => ∃ j, ks[j]? = some false ∧ B j x
structure PostA (G : GC) (S : Nat → AS) (ks : List Bool) (qt : Bool) (σ : St) (H : Hp) (Z : AS) (FS : Nat → AS) (ds : List D) (δ' : DS) (vs : List V) (H' : Hp) (Z' : AS) (FS' : Nat → AS) (B : Nat → AS) : Prop where
  sr : SR G Z' S H' δ' σ FS'
  st : Step H Z (Own FS) H' Z' (fun x => Own FS' x ∨ Tm ks B x)
  ar : ArgR G Z' (Own S) H' FS' ks ds vs B
  qq : qt = true → FS' = FS ∧ Same H H'
def rdA (G : GC) (W : WX) (ks : List Bool) (qt : Bool) (f : DS → Option EA) : TA := fun σ H Q => ∃ δ Z S FS, SR G Z S H δ σ FS ∧ (∃ r, f δ = some r) ∧
  (∀ ds δ', f δ = some (.ok ds, δ') → ∀ vs H' Z' FS' B, PostA G S ks qt σ H Z FS ds δ' vs H' Z' FS' B → Q vs H') ∧
  (∀ x δ', f δ = some (.ex x, δ') → ∀ c dd H' Z' FS', PostX G S σ H Z FS x δ' c dd H' Z' FS' → W c dd σ H')

/-- the arguments that are names -/
def VR (vr : List (Option Nat)) (σ : St) (vs : List V) : Prop := ∀ (j i : Nat), vr[j]? = some (some i) → ∃ v, vs[j]? = some v ∧ σ[i]? = some (some v)
def rdAV (G : GC) (W : WX) (ks : List Bool) (vr : List (Option Nat)) (qt : Bool) (f : DS → Option EA) : TA := fun σ H Q => ∃ δ Z S FS, SR G Z S H δ σ FS ∧ (∃ r, f δ = some r) ∧
  (∀ ds δ', f δ = some (.ok ds, δ') → ∀ vs H' Z' FS' B, PostA G S ks qt σ H Z FS ds δ' vs H' Z' FS' B → VR vr σ vs → Q vs H') ∧
  (∀ x δ', f δ = some (.ex x, δ') → ∀ c dd H' Z' FS', PostX G S σ H Z FS x δ' c dd H' Z' FS' → W c dd σ H')

/-! ### the evaluator's pieces -/
def evVar (i : Nat) : DS → Option ER := fun δ => match δ[i]? with
  | some (some d) => some (.ok d, δ)
  | _ => none
def evCst (d : D) : DS → Option ER := fun δ => some (.ok d, δ)
def evNil : DS → Option EA := fun δ => some (.ok [], δ)
/-- vw: the first is a view; qr: the rest changes nothing -/
def evCons (vw qr : Bool) (fa : DS → Option ER) (fr : DS → Option EA) : DS → Option EA := fun δ => match fa δ with
  | none => none
  | some (.ex x, δ1) => some (.ex x, δ1)
  | some (.ok d, δ1) => if vw && !qr && !isF d then none else match fr δ1 with
    | none => none
    | some (.ex x, δ2) => some (.ex x, δ2)
    | some (.ok ds, δ2) => some (.ok (d :: ds), δ2)
/-- a name: what it holds behind the rest -/
def evDefer (i : Nat) (fr : DS → Option EA) : DS → Option EA := fun δ => match δ[i]? with
  | some (some _) => match fr δ with
    | none => none
    | some (.ex x, δ2) => some (.ex x, δ2)
    | some (.ok ds, δ2) => match δ2[i]? with
      | some (some d) => some (.ok (d :: ds), δ2)
      | _ => none
  | _ => none

section
variable {G : GC} {W : WX} {X : Cx}
theorem PE.mono {e : Expr} {t t' : TE} (h : PE X e t) (m : ∀ σ H Q, t' σ H Q → t σ H Q) : PE X e t' := ⟨fun pins s σ H Q I q => h.run pins s σ H Q I (m σ H Q q)⟩
theorem PT.mono {e : Expr} {t t' : TT} (h : PT X e t) (m : ∀ σ H Q, t' σ H Q → t σ H Q) : PT X e t' := ⟨fun pins s σ H Q I q => h.run pins s σ H Q I (m σ H Q q)⟩
theorem PA.mono {e : List Expr} {t t' : TA} (h : PA X e t) (m : ∀ σ H Q, t' σ H Q → t σ H Q) : PA X e t' := ⟨fun pos pins s σ H Q I q => h.run pos pins s σ H Q I (m σ H Q q)⟩
theorem PS.mono {e : Stmt} {t t' : TS} (h : PS X e t) (m : ∀ D σ H, t' D σ H → t D σ H) : PS X e t' := ⟨fun pins s σ H D I q => h.run pins s σ H D I (m D σ H q)⟩
theorem PSs.mono {e : List Stmt} {t t' : TS} (h : PSs X e t) (m : ∀ D σ H, t' D σ H → t D σ H) : PSs X e t' := ⟨fun pins s σ H D I q => h.run pins s σ H D I (m D σ H q)⟩

theorem Step.quiet {H : Hp} {Z : AS} {FS : Nat → AS} {A : AS} (h : ∀ x, A x → Own FS x) : Step H Z (Own FS) H Z (fun x => Own FS x ∨ A x) := (Step.refl H Z (Own FS)).sub fun a z => z.elim id (h a)
theorem not_none {α : Type} {a : α} {p : Prop} (h : (none : Option α) = some a) : p := by cases h

theorem ok_inj {α : Type} {a b : α} {δ δ' : DS} (h : (some (RR.ok a, δ) : Option (RR α × DS)) = some (.ok b, δ')) : a = b ∧ δ = δ' := by cases h; exact ⟨rfl, rfl⟩
theorem ok_ex {α : Type} {a : α} {x : Xc} {δ δ' : DS} {p : Prop} (h : (some (RR.ok a, δ) : Option (RR α × DS)) = some (.ex x, δ')) : p := by cases h

theorem rd_var {i : Nat} : ∀ σ H Q, rdE G W true true (evVar i) σ H Q → tVar i σ H Q := by
  rintro σ H Q ⟨δ, Z, S, FS, sr, ⟨r, hr⟩, ok, -⟩
  unfold evVar at hr
  split at hr
  · rename_i d e
    obtain ⟨v, ev, rp⟩ := sr.slot i d e
    refine ⟨v, ev, ok d δ (by unfold evVar; rw [e]) v H Z FS (FS i) ⟨sr, Step.quiet fun x h => ⟨i, h⟩, ?_, fun _ => ⟨rfl, fun _ _ e => e⟩⟩⟩
    rw [if_pos rfl]; exact ⟨rp.any, fun x h => ⟨i, h⟩⟩
  · cases hr
/-- a scalar written -/
theorem rd_cst {d : D} {v : V} (h : ∀ Z H, RepF G Z H d v) : ∀ σ H Q, rdE G W false true (evCst d) σ H Q → tC v σ H Q := by
  rintro σ H Q ⟨δ, Z, S, FS, sr, -, ok, -⟩
  refine ok d δ rfl v H Z FS S0 ⟨sr, Step.quiet fun x h => h.elim, ?_, fun _ => ⟨rfl, fun _ _ e => e⟩⟩
  rw [if_neg Bool.false_ne_true]; exact ⟨.fz (h Z H) fun x h => h, fun x h => h.elim⟩
theorem rdAV.to {ks : List Bool} {vr : List (Option Nat)} {qt : Bool} {f : DS → Option EA} {σ : St} {H : Hp} {Q : List V → Hp → Prop} (h : rdA G W ks qt f σ H Q) : rdAV G W ks vr qt f σ H Q := by
  obtain ⟨δ, Z, S, FS, sr, h1, ok, ex⟩ := h
  exact ⟨δ, Z, S, FS, sr, h1, fun ds δ' e vs H' Z' FS' B p _ => ok ds δ' e vs H' Z' FS' B p, ex⟩
theorem VR.nil {σ : St} {vs : List V} : VR [] σ vs := fun j i h => by simp at h
theorem rdAV.of {ks : List Bool} {qt : Bool} {f : DS → Option EA} {σ : St} {H : Hp} {Q : List V → Hp → Prop} (h : rdAV G W ks [] qt f σ H Q) : rdA G W ks qt f σ H Q := by
  obtain ⟨δ, Z, S, FS, sr, h1, ok, ex⟩ := h
  exact ⟨δ, Z, S, FS, sr, h1, fun ds δ' e vs H' Z' FS' B p => ok ds δ' e vs H' Z' FS' B p VR.nil, ex⟩
theorem rd_nilV : ∀ σ H Q, rdAV G W [] [] true evNil σ H Q → tNil σ H Q := by
  rintro σ H Q ⟨δ, Z, S, FS, sr, -, ok, -⟩
  exact ok [] δ rfl [] H Z FS (fun _ => S0) ⟨sr, Step.quiet fun x ⟨j, h, _⟩ => by simp at h, ⟨rfl, rfl, fun j d v k e => by simp at e, fun i j x h => by simp at h⟩, fun _ => ⟨rfl, fun _ _ e => e⟩⟩ VR.nil
theorem rd_nil : ∀ σ H Q, rdA G W [] true evNil σ H Q → tNil σ H Q := fun σ H Q h => rd_nilV σ H Q (rdAV.to h)
theorem rd_deferV {i : Nat} {ks : List Bool} {vr : List (Option Nat)} {qr : Bool} {fr : DS → Option EA} {tr : TA} (hr : ∀ σ H Q, rdAV G W ks vr qr fr σ H Q → tr σ H Q) :
    ∀ σ H Q, rdAV G W (true :: ks) (some i :: vr) qr (evDefer i fr) σ H Q → tCons (tVar i) tr σ H Q := by
  rintro σ H Q ⟨δ, Z, S, FS, sr, ⟨r, hf⟩, ok, ex⟩
  unfold evDefer at hf ok ex
  cases e : δ[i]? with
  | none => rw [e] at hf; cases hf
  | some q =>
    cases q with
    | none => rw [e] at hf; cases hf
    | some d0 =>
      simp only [e] at hf ok ex
      obtain ⟨v, ev, rp⟩ := sr.slot i d0 e
      refine ⟨v, ev, ?_⟩
      refine hr σ H _ ⟨δ, Z, S, FS, sr, ?_, fun ds δ' h vs H' Z' FS' B p hV => ?_, fun x δ' h => ?_⟩
      · cases q : fr δ with
        | none => rw [q] at hf; cases hf
        | some w => exact ⟨w, rfl⟩
      · rw [h] at hf ok
        simp only at hf ok
        cases e2 : δ'[i]? with
        | none => rw [e2] at hf; cases hf
        | some q2 =>
          cases q2 with
          | none => rw [e2] at hf; cases hf
          | some d =>
            rw [e2] at ok
            obtain ⟨v2, ev2, rp2⟩ := p.sr.slot i d e2
            have ve : v2 = v := by rw [ev] at ev2; exact (Option.some.inj (Option.some.inj ev2)).symm
            subst ve
            refine ok (d :: ds) δ' rfl (v2 :: vs) H' Z' FS' (fun j => match j with | 0 => FS' i | j + 1 => B j) ⟨p.sr, p.st.sub fun a z => ?_, ⟨by simp [p.ar.l1], by simp [p.ar.l2], fun j d' v' k h1 h2 h3 => ?_, fun j j' x h1 h2 b1 b2 => ?_⟩, p.qq⟩ fun j k hk => ?_
            · rcases z with z | ⟨j, hj, z⟩
              · exact .inl z
              · cases j with
                | zero => simp at hj
                | succ j => exact .inr ⟨j, by simpa using hj, z⟩
            · cases j with
              | zero =>
                simp at h1 h2 h3
                subst h1 h2 h3
                rw [if_pos rfl]; exact ⟨rp2.any, fun x h => ⟨i, h⟩⟩
              | succ j => exact p.ar.rep j d' v' k (by simpa using h1) (by simpa using h2) (by simpa using h3)
            · cases j with
              | zero => simp at h1
              | succ j =>
                cases j' with
                | zero => simp at h2
                | succ j' => rw [p.ar.disj j j' x (by simpa using h1) (by simpa using h2) b1 b2]
            · cases j with
              | zero => simp at hk; subst hk; exact ⟨v2, rfl, ev2⟩
              | succ j => exact hV j k (by simpa using hk)
      · rw [h] at ex
        exact ex x δ' rfl
theorem rd_defer {i : Nat} {ks : List Bool} {qr : Bool} {fr : DS → Option EA} {tr : TA} (hr : ∀ σ H Q, rdA G W ks qr fr σ H Q → tr σ H Q) :
    ∀ σ H Q, rdA G W (true :: ks) qr (evDefer i fr) σ H Q → tCons (tVar i) tr σ H Q := fun σ H Q h => rd_deferV (vr := []) (fun σ H Q h => hr σ H Q (rdAV.of h)) σ H Q (rdAV.to h)
/-- an argument ahead of the others -/
theorem rd_consV {vw qa qr : Bool} {ks : List Bool} {vr : List (Option Nat)} {fa : DS → Option ER} {fr : DS → Option EA} {ta : TE} {tr : TA} (ha : ∀ σ H Q, rdE G W vw qa fa σ H Q → ta σ H Q) (hr : ∀ σ H Q, rdAV G W ks vr qr fr σ H Q → tr σ H Q) (hv : vw = true → qa = true) :
    ∀ σ H Q, rdAV G W (vw :: ks) (none :: vr) (qa && qr) (evCons vw qr fa fr) σ H Q → tCons ta tr σ H Q := by
  rintro σ H Q ⟨δ, Z, S, FS, sr, ⟨r, hf⟩, ok, ex⟩
  unfold evCons at hf ok ex
  refine ha σ H _ ⟨δ, Z, S, FS, sr, ?_, fun d δ1 h v H1 Z1 FS1 A p => ?_, fun x δ1 h => ?_⟩
  · cases q : fa δ with
    | none => rw [q] at hf; cases hf
    | some w => exact ⟨w, rfl⟩
  · rw [h] at hf ok ex
    simp only at hf ok ex
    by_cases hc : (vw && !qr && !isF d) = true
    · rw [if_pos hc] at hf; cases hf
    · rw [if_neg hc] at hf
      rw [if_neg hc] at ok ex
      refine hr σ H1 _ ⟨δ1, Z1, S, FS1, p.sr, ?_, fun ds δ2 h2 vs H2 Z2 FS2 B p2 hV => ?_, fun x δ2 h2 c dd H2 Z2 FS2 p2 => ?_⟩
      · cases q : fr δ1 with
        | none => rw [q] at hf; cases hf
        | some w => exact ⟨w, rfl⟩
      · rw [h2] at ok
        have fresh : ∀ x, A x → (∃ o, H1 x = some o) := fun x hx => by
          have vl := p.vl
          split at vl
          · exact vl.1.own x hx
          · exact vl.1.own x hx
        -- the first value behind the rest
        have keep : (if vw = true then Rep G Z2 (Own S) H2 d v A ∧ (∀ x, A x → Own FS2 x) else Rep G Z2 S0 H2 d v A ∧ ∀ x, A x → ¬ Z2 x ∧ ¬ Own S x ∧ ¬ Own FS2 x) := by
          have vl := p.vl
          cases hvw : vw with
          | true =>
            rw [hvw, if_pos rfl] at vl
            rw [if_pos rfl]
            by_cases hq : qr = true
            · obtain ⟨z2, z3⟩ := p2.qq hq
              rw [z2]
              exact ⟨vl.1.mono p2.st.zin (fun _ z => z) fun a _ o e => z3 a o e, vl.2⟩
            · have hF : isF d = true := by
                cases q : isF d with
                | true => rfl
                | false => exact absurd (by simp [hvw, hq, q]) hc
              obtain ⟨rf, nA⟩ := vl.1.frozen hF
              exact ⟨.fz (rf.step p2.st fun a z => (p.sr.nz a z).1) nA, fun x h => (nA x h).elim⟩
          | false =>
            rw [hvw, if_neg Bool.false_ne_true] at vl
            rw [if_neg Bool.false_ne_true]
            refine ⟨vl.1.step p2.st (fun a h => ⟨(p.sr.nz a h).1, fun z => z⟩) fun a h => (vl.2 a h).2.2, fun x hx => ?_⟩
            obtain ⟨n1, n2, n3⟩ := vl.2 x hx
            obtain ⟨o, eo⟩ := fresh x hx
            refine ⟨fun z => ?_, n2, fun z => ?_⟩
            · rcases p2.st.znew x z with z | z | z
              · exact n1 z
              · exact n3 z
              · rw [z] at eo; cases eo
            · rcases p2.st.pnew x (.inl z) with z | z
              · exact n3 z
              · rw [z] at eo; cases eo
        have apart : vw = false → ∀ j x, ks[j]? = some false → B j x → A x → False := fun hvw j x hj hb hx => by
          have vl := p.vl
          rw [hvw, if_neg Bool.false_ne_true] at vl
          obtain ⟨o, eo⟩ := fresh x hx
          rcases p2.st.pnew x (.inr ⟨j, hj, hb⟩) with z | z
          · exact (vl.2 x hx).2.2 z
          · rw [z] at eo; cases eo
        refine ok (d :: ds) δ2 rfl (v :: vs) H2 Z2 FS2 (fun j => match j with | 0 => A | j + 1 => B j) ⟨p2.sr, ?_, ⟨by simp [p2.ar.l1], by simp [p2.ar.l2], fun j d' v' k h1 h2 h3 => ?_, fun j j' x h1 h2 b1 b2 => ?_⟩, fun hq => ?_⟩ fun j k hk => ?_
        · refine ⟨fun a o e n => ?_, fun a o e => ?_, fun a z => p2.st.zin a (p.st.zin a z), fun a z => ?_, fun a z => ?_⟩
          · refine p2.st.keep a o (p.st.keep a o e n) fun z => ?_
            rcases p.st.pnew a (.inl z) with z | z
            · exact n z
            · rw [z] at e; cases e
          · obtain ⟨o1, e1⟩ := p.st.there a o e
            exact p2.st.there a o1 e1
          · have t := (p.st.sub (P2 := Own FS1) fun a z => .inl z).trans p2.st
            exact t.znew a z
          · have t := (p.st.sub (P2 := Own FS1) fun a z => .inl z).trans p2.st
            rcases z with z | ⟨j, hj, z⟩
            · exact t.pnew a (.inl z)
            · cases j with
              | zero => exact p.st.pnew a (.inr z)
              | succ j => exact t.pnew a (.inr ⟨j, by simpa using hj, z⟩)
        · cases j with
          | zero =>
            simp at h1 h2 h3
            subst h1 h2 h3
            exact keep
          | succ j => exact p2.ar.rep j d' v' k (by simpa using h1) (by simpa using h2) (by simpa using h3)
        · cases j with
          | zero =>
            cases j' with
            | zero => rfl
            | succ j' => exact (apart (by simpa using h1) j' x (by simpa using h2) b2 b1).elim
          | succ j =>
            cases j' with
            | zero => exact (apart (by simpa using h2) j x (by simpa using h1) b1 b2).elim
            | succ j' => rw [p2.ar.disj j j' x (by simpa using h1) (by simpa using h2) b1 b2]
        · obtain ⟨q1, q2⟩ := Bool.and_eq_true_iff.mp hq
          obtain ⟨a2, a3⟩ := p.qq q1
          obtain ⟨b2, b3⟩ := p2.qq q2
          exact ⟨b2.trans a2, a3.trans b3⟩
        · cases j with
          | zero => simp at hk
          | succ j => exact hV j k (by simpa using hk)
      · rw [h2] at ex
        exact ex x δ2 rfl c dd H2 Z2 FS2 ⟨p2.sr, (p.st.sub (P2 := Own FS1) fun a z => .inl z).trans p2.st, p2.xr⟩
  · rw [h] at ex
    exact ex x δ1 rfl
theorem rd_cons {vw qa qr : Bool} {ks : List Bool} {fa : DS → Option ER} {fr : DS → Option EA} {ta : TE} {tr : TA} (ha : ∀ σ H Q, rdE G W vw qa fa σ H Q → ta σ H Q) (hr : ∀ σ H Q, rdA G W ks qr fr σ H Q → tr σ H Q) (hv : vw = true → qa = true) :
    ∀ σ H Q, rdA G W (vw :: ks) (qa && qr) (evCons vw qr fa fr) σ H Q → tCons ta tr σ H Q := fun σ H Q h => rd_consV (vr := []) ha (fun σ H Q h => hr σ H Q (rdAV.of h)) hv σ H Q (rdAV.to h)
end
end PD
/-! P, part 2: data as the library reads it; the operations by values. -/
namespace PD
open PySem L2

mutual
def toP : D → PyData
  | .non => .none
  | .bl b => .bool b
  | .int i => .int i
  | .str x => .str x
  | .tup xs => .tuple (toPL xs)
  | .lst _ xs => .list (toPL xs)
  | _ => .none
def toPL : List D → List PyData
  | [] => []
  | d :: r => toP d :: toPL r
end
theorem toPL_eq : ∀ xs : List D, toPL xs = xs.map toP
  | [] => rfl
  | d :: r => by rw [toPL, toPL_eq r]; rfl
mutual
/-- data without dicts and instances, at most n deep -/
def dp : Nat → D → Bool
  | _, .non | _, .bl _ | _, .int _ | _, .str _ => true
  | 0, _ => false
  | n + 1, .tup xs => dpL n xs
  | n + 1, .lst _ xs => dpL n xs
  | _ + 1, .dic _ _ | _ + 1, .dit _ _ | _ + 1, .ins _ _ _ | _ + 1, .exc _ _ => false
def dpL : Nat → List D → Bool
  | _, [] => true
  | n, d :: r => dp n d && dpL n r
end
theorem dpL_all (n : Nat) : ∀ xs : List D, dpL n xs = xs.all (dp n)
  | [] => by simp [dpL]
  | d :: r => by rw [dpL, dpL_all n r]; rfl
mutual
theorem dp_plain : ∀ (n : Nat) (d : D), dp n d = true → (toP d).plain = true ∧ (toP d).depth ≤ n
  | n, .non, _ => by simp [toP, PyData.plain, PyData.depth]
  | n, .bl b, _ => by simp [toP, PyData.plain, PyData.depth]
  | n, .int i, _ => by simp [toP, PyData.plain, PyData.depth]
  | n, .str s, _ => by simp [toP, PyData.plain, PyData.depth]
  | 0, .tup xs, h => by simp [dp] at h
  | 0, .lst m xs, h => by simp [dp] at h
  | 0, .dic m xs, h => by simp [dp] at h
  | 0, .dit m xs, h => by simp [dp] at h
  | 0, .ins m c xs, h => by simp [dp] at h
  | 0, .exc c xs, h => by simp [dp] at h
  | n + 1, .tup xs, h => by
    obtain ⟨h1, h2⟩ := dpL_plain n xs (by rw [dp] at h; exact h)
    exact ⟨by rw [toP, PyData.plain]; exact h1, by rw [toP, PyData.depth]; omega⟩
  | n + 1, .lst m xs, h => by
    obtain ⟨h1, h2⟩ := dpL_plain n xs (by rw [dp] at h; exact h)
    exact ⟨by rw [toP, PyData.plain]; exact h1, by rw [toP, PyData.depth]; omega⟩
  | n + 1, .dic m xs, h => by simp [dp] at h
  | n + 1, .dit m xs, h => by simp [dp] at h
  | n + 1, .ins m c xs, h => by simp [dp] at h
  | n + 1, .exc c xs, h => by simp [dp] at h
theorem dpL_plain : ∀ (n : Nat) (xs : List D), dpL n xs = true → PyData.plainAll (toPL xs) = true ∧ PyData.depthAll (toPL xs) ≤ n
  | n, [], _ => by simp [toPL, PyData.plainAll, PyData.depthAll]
  | n, d :: r, h => by
    rw [dpL, Bool.and_eq_true] at h
    obtain ⟨a1, a2⟩ := dp_plain n d h.1
    obtain ⟨b1, b2⟩ := dpL_plain n r h.2
    exact ⟨by rw [toPL, PyData.plainAll, a1, b1]; rfl, by rw [toPL, PyData.depthAll]; omega⟩
end
def shal (m : Fl) : Bool := m != .oo && m != .ll
section
variable {G : GC} {Z S : AS} {H : Hp} {d : D} {v : V} {A : AS} {xs : List D}
theorem Rep.lstV {m : Fl} (r : Rep G Z S H (.lst m xs) v A) : ∃ a vs, v = .ref a ∧ SqL G.K H a vs ∧ xs.length = vs.length ∧ (∀ (i : Nat) d w, xs[i]? = some d → vs[i]? = some w → ∃ B, Rep G Z S H d w B ∧ ∀ x, B x → A x) ∧
    (m ≠ .k → H a = some (.lst vs)) ∧ (shal m = true → ∀ (i : Nat) d w, xs[i]? = some d → vs[i]? = some w → RepF G Z H d w) := by
  have n0 : ∀ x, ¬ S0 x := fun x h => h
  cases r with
  | fz h hA =>
    cases h with
    | lsk h hl he => exact ⟨_, _, rfl, h.imp (fun z => z.2) id, hl, fun i d w e1 e2 => ⟨S0, .fz (he i d w e1 e2) n0, fun x q => q.elim⟩, fun q => absurd rfl q, fun _ => he⟩
    | lst z h hl he => exact ⟨_, _, rfl, .inl (.inl h), hl, fun i d w e1 e2 => ⟨S0, .fz (he i d w e1 e2) n0, fun x q => q.elim⟩, fun _ => h, fun _ => he⟩
  | lo h hl he hA => exact ⟨_, _, rfl, .inl (.inl h), hl, fun i d w e1 e2 => ⟨S0, .fz (he i d w e1 e2) n0, fun x q => q.elim⟩, fun _ => h, fun _ => he⟩
  | loo B h hl he hd hn ho hA => exact ⟨_, _, rfl, .inl (.inl h), hl, fun i d w e1 e2 => ⟨B i, he i d w e1 e2, fun x q => (hA x).mpr (.inr ⟨i, q⟩)⟩, fun _ => h, fun q => absurd q (by decide)⟩
  | ll s h hl he hA => exact ⟨_, _, rfl, .inl (.inl h), hl, fun i d w e1 e2 => ⟨S0, .fz (he i d w e1 e2) n0, fun x q => q.elim⟩, fun _ => h, fun _ => he⟩
  | lll s h hl he hA => exact ⟨_, _, rfl, .inl (.inl h), hl, fun i d w e1 e2 => ⟨S0, he i d w e1 e2, fun x q => q.elim⟩, fun _ => h, fun q => absurd q (by decide)⟩
theorem Rep.tupV (r : Rep G Z S H (.tup xs) v A) : ∃ a vs, v = .ref a ∧ SqT G.K H a vs ∧ xs.length = vs.length ∧ (∀ (i : Nat) d w, xs[i]? = some d → vs[i]? = some w → RepF G Z H d w) ∧ ∀ x, ¬ A x := by
  cases r with
  | fz h hA =>
    cases h with
    | tup h hl he => exact ⟨_, _, rfl, h.imp (fun z => z.2) id, hl, he, hA⟩
theorem Rep.intV {i : Int} (r : Rep G Z S H (.int i) v A) : v = .int i := by cases r with | fz h hA => cases h; rfl
theorem Rep.strV {i : Str} (r : Rep G Z S H (.str i) v A) : v = .str i := by cases r with | fz h hA => cases h; rfl
theorem Rep.blV {i : Bool} (r : Rep G Z S H (.bl i) v A) : v = .bl i := by cases r with | fz h hA => cases h; rfl
theorem Rep.nonV (r : Rep G Z S H .non v A) : v = .non := by cases r with | fz h hA => cases h; rfl
theorem readsAll_of {h : Heap} : ∀ {ds : List PyData} {us : List Value}, ds.length = us.length → (∀ (i : Nat) d u, ds[i]? = some d → us[i]? = some u → ∃ as, Reads h u d as) → ∃ as, ReadsAll h us ds as
  | [], [], _, _ => ⟨_, .nil⟩
  | d :: ds, u :: us, hl, hh => by
    obtain ⟨a1, r1⟩ := hh 0 d u rfl rfl
    obtain ⟨a2, r2⟩ := readsAll_of (ds := ds) (us := us) (by simpa using hl) fun i d u e1 e2 => hh (i + 1) d u (by simpa using e1) (by simpa using e2)
    exact ⟨_, .cons r1 r2⟩
  | [], _ :: _, hl, _ => by simp at hl
  | _ :: _, [], hl, _ => by simp at hl
theorem vals_at : ∀ {vs : List V} {us : List Value} {i : Nat} {u : Value}, Vals vs us → us[i]? = some u → ∃ v, vs[i]? = some v ∧ RelV v u
  | _, _, _, _, .nil, e => by simp at e
  | _, _, 0, _, .cons r _, e => by simp at e; subst e; exact ⟨_, rfl, r⟩
  | _, _, i + 1, u, .cons _ t, e => by
    obtain ⟨v, h1, h2⟩ := vals_at (i := i) (u := u) t (by simpa using e)
    exact ⟨v, by simpa using h1, h2⟩
/-- what a value bears is what the library reads off it -/
theorem Rep.reads {X : Cx} {pins : List (Addr × Obj)} {σ : St} {s : Shared} (hK : X.K = G.K) (I : Inv X pins σ H s) : ∀ (n : Nat) {d : D} {v : V} {u : Value} {A : AS}, dp n d = true → Rep G Z S H d v A → RelV v u → ∃ as, Reads s.heap u (toP d) as := by
  intro n
  induction n with
  | zero =>
    intro d v u A h r e
    cases d with
    | non => rw [r.nonV] at e; cases e; exact ⟨_, .none⟩
    | bl b => rw [r.blV] at e; cases e; exact ⟨_, .bool b⟩
    | int i => rw [r.intV] at e; obtain ⟨t, rfl⟩ := e; exact ⟨_, .int i t⟩
    | str x => rw [r.strV] at e; obtain ⟨t, rfl⟩ := e; exact ⟨_, .str x t⟩
    | _ => simp [dp] at h
  | succ n ih =>
    intro d v u A h r e
    cases d with
    | non => rw [r.nonV] at e; cases e; exact ⟨_, .none⟩
    | bl b => rw [r.blV] at e; cases e; exact ⟨_, .bool b⟩
    | int i => rw [r.intV] at e; obtain ⟨t, rfl⟩ := e; exact ⟨_, .int i t⟩
    | str x => rw [r.strV] at e; obtain ⟨t, rfl⟩ := e; exact ⟨_, .str x t⟩
    | tup xs =>
      rw [dp, dpL_all, List.all_eq_true] at h
      obtain ⟨a, vs, rfl, sq, hl, he, _⟩ := r.tupV
      cases e
      rw [← hK] at sq
      obtain ⟨its, rv, ⟨o, ho, hc, c, hd⟩, _⟩ := I.tuple sq
      obtain ⟨as, q⟩ := readsAll_of (h := s.heap) (ds := toPL xs) (us := its) (by rw [toPL_eq, List.length_map, hl, rv.length]) fun i d u e1 e2 => by
        rw [toPL_eq] at e1
        obtain ⟨x, ex, rfl⟩ := getMap e1
        obtain ⟨w, ew, rw'⟩ := vals_at rv e2
        exact ih (h x (List.mem_of_getElem? ex)) (.fz (S := S) (A := S0) (he i x w ex ew) fun _ z => z) rw'
      exact ⟨_, Reads.tuple ho hc hd q⟩
    | lst m xs =>
      rw [dp, dpL_all, List.all_eq_true] at h
      obtain ⟨a, vs, rfl, sq, hl, he, _⟩ := r.lstV
      cases e
      rw [← hK] at sq
      obtain ⟨its, rv, ⟨o, c, ho, hc, _, hd⟩, _⟩ := I.list sq
      obtain ⟨as, q⟩ := readsAll_of (h := s.heap) (ds := toPL xs) (us := its) (by rw [toPL_eq, List.length_map, hl, rv.length]) fun i d u e1 e2 => by
        rw [toPL_eq] at e1
        obtain ⟨x, ex, rfl⟩ := getMap e1
        obtain ⟨w, ew, rw'⟩ := vals_at rv e2
        obtain ⟨B, rB, _⟩ := he i x w ex ew
        exact ih (h x (List.mem_of_getElem? ex)) rB rw'
      exact ⟨_, Reads.list ho hc hd q⟩
    | _ => simp [dp] at h
end

/-! ### operations by values -/
/-- the arguments, as what stands behind them -/
def ArgV (G : GC) (Z S : AS) (H : Hp) (ds : List D) (vs : List V) : Prop := ds.length = vs.length ∧ ∀ (j : Nat) d v, ds[j]? = some d → vs[j]? = some v → ∃ A, Rep G Z S H d v A
/-- an answer: a scalar, a frozen thing, or a new one -/
def OkV (G : GC) (Z : AS) (H : Hp) (d : D) (Q : VK) : Prop := ∀ v H' Z' A, Same H H' → (∀ a, Z a → Z' a) → (∀ a, Z' a → Z a ∨ (H a = none ∧ ∃ o, H' a = some o)) → Rep G Z' S0 H' d v A → (∀ x, A x → H x = none ∧ ¬ Z' x) → Q v H'
def Snd (G : GC) (g : List D → Option D) (r : List V → Hp → VK → Prop) : Prop :=
  ∀ Z S H ds vs d Q, (∀ a, Z a → ∃ o, H a = some o) → ArgV G Z S H ds vs → g ds = some d → OkV G Z H d Q → r vs H Q
def r2L (r : R2) : List V → Hp → VK → Prop := fun vs H Q => ∃ x y, vs = [x, y] ∧ r x y H Q
def r1L (r : V → Hp → VK → Prop) : List V → Hp → VK → Prop := fun vs H Q => ∃ x, vs = [x] ∧ r x H Q
def rmL (r : V → List V → Hp → VK → Prop) : List V → Hp → VK → Prop := fun vs H Q => ∃ x xs, vs = x :: xs ∧ r x xs H Q
def evOp (g : List D → Option D) (fa : DS → Option EA) : DS → Option ER := fun δ => match fa δ with
  | none => none
  | some (.ex x, δ') => some (.ex x, δ')
  | some (.ok ds, δ') => match g ds with
    | none => none
    | some d => some (.ok d, δ')
section
variable {G : GC} {W : WX}
theorem ArgR.argV {Z S : AS} {H : Hp} {FS : Nat → AS} {ks : List Bool} {ds : List D} {vs : List V} {B : Nat → AS} (a : ArgR G Z S H FS ks ds vs B) : ArgV G Z S H ds vs := by
  refine ⟨a.l1, fun j d v e1 e2 => ?_⟩
  have hj : j < ds.length := (List.getElem?_eq_some_iff.mp e1).1
  have hk : j < ks.length := by rw [a.l2]; exact hj
  have q := a.rep j d v ks[j] e1 e2 (by simp [hk])
  split at q
  · exact ⟨_, q.1⟩
  · exact ⟨_, q.1.s0⟩
theorem SR.grow {Z Z' : AS} {S : Nat → AS} {H H' : Hp} {δ : DS} {σ : St} {FS : Nat → AS} (r : SR G Z S H δ σ FS) (sm : Same H H') (zi : ∀ a, Z a → Z' a) (zn : ∀ a, Z' a → Z a ∨ (H a = none ∧ ∃ o, H' a = some o)) : SR G Z' S H' δ σ FS where
  len := r.len
  slot := fun i d e => let ⟨v, e1, rp⟩ := r.slot i d e; ⟨v, e1, rp.mono zi (fun _ z => z) fun a _ o e => sm a o e⟩
  empt := r.empt
  disj := r.disj
  zs := fun a z => by
    rcases zn a z with z | ⟨_, o, z⟩
    · obtain ⟨o, e⟩ := r.zs a z; exact ⟨o, sm a o e⟩
    · exact ⟨o, z⟩
  ss := fun a z => let ⟨o, e⟩ := r.ss a z; ⟨o, sm a o e⟩
  nz := fun a z => by
    refine ⟨fun q => ?_, (r.nz a z).2⟩
    rcases zn a q with q | ⟨q, _⟩
    · exact (r.nz a z).1 q
    · obtain ⟨o, e⟩ := r.own a z
      rw [q] at e; cases e
theorem rd_op {ks : List Bool} {qt : Bool} {g : List D → Option D} {r : List V → Hp → VK → Prop} {fa : DS → Option EA} {tr : TA} (hs : Snd G g r) (ha : ∀ σ H Q, rdA G W ks qt fa σ H Q → tr σ H Q) :
    ∀ σ H Q, rdE G W false qt (evOp g fa) σ H Q → tr σ H fun vs H1 => r vs H1 Q := by
  rintro σ H Q ⟨δ, Z, S, FS, sr, ⟨w, hf⟩, ok, ex⟩
  unfold evOp at hf ok ex
  refine ha σ H _ ⟨δ, Z, S, FS, sr, ?_, fun ds δ' h vs H' Z' FS' B p => ?_, fun x δ' h => ?_⟩
  · cases q : fa δ with
    | none => rw [q] at hf; cases hf
    | some w => exact ⟨w, rfl⟩
  · rw [h] at hf ok
    simp only at hf ok
    cases e : g ds with
    | none => rw [e] at hf; cases hf
    | some d =>
      rw [e] at ok
      refine hs Z' (Own S) H' ds vs d Q p.sr.zs p.ar.argV e fun v H2 Z2 A sm zi zn rp fr => ?_
      refine ok d δ' rfl v H2 Z2 FS' A ⟨p.sr.grow sm zi zn, ?_, ?_, fun q => ?_⟩
      · exact (p.st.sub (P2 := Own FS') fun a z => .inl z).trans ⟨fun a o e _ => sm a o e, fun a o e => ⟨o, sm a o e⟩, zi, fun a z => (zn a z).imp id fun q => .inr q.1, fun a z => z.imp id fun q => (fr a q).1⟩
      · rw [if_neg Bool.false_ne_true]
        refine ⟨rp, fun x hx => ?_⟩
        have nx := (fr x hx).1
        refine ⟨(fr x hx).2, fun z => ?_, fun z => ?_⟩
        · obtain ⟨o, e⟩ := p.sr.ss x z; rw [nx] at e; cases e
        · obtain ⟨o, e⟩ := p.sr.own x z; rw [nx] at e; cases e
      · obtain ⟨b, c⟩ := p.qq q
        exact ⟨b, c.trans sm⟩
  · rw [h] at ex
    exact ex x δ' rfl

/-! answers -/
variable {Z S : AS} {H : Hp} {d : D} {Q : VK}
theorem OkV.old {v : V} (h : OkV G Z H d Q) (r : RepF G Z H d v) : Q v H := h _ H Z S0 (fun _ _ e => e) (fun _ z => z) (fun _ z => .inl z) (.fz r fun _ z => z) fun _ z => z.elim
theorem OkV.int {i : Int} (h : OkV G Z H (.int i) Q) : Q (.int i) H := h.old (.int i)
theorem OkV.bl {i : Bool} (h : OkV G Z H (.bl i) Q) : Q (.bl i) H := h.old (.bl i)
theorem OkV.str {i : Str} (h : OkV G Z H (.str i) Q) : Q (.str i) H := h.old (.str i)
theorem OkV.non (h : OkV G Z H .non Q) : Q .non H := h.old .non
theorem same_upd {p : Addr} {o : HO} (n : H p = none) : Same H (upd H p o) := fun a u e => by rw [upd_ne (ne_of_none e n)]; exact e
/-- a new list -/
theorem OkV.lst (zs : ∀ a, Z a → ∃ o, H a = some o) {xs : List D} {vs : List V} (h : OkV G Z H (.lst .o xs) Q) (hl : xs.length = vs.length) (he : ∀ (i : Nat) d w, xs[i]? = some d → vs[i]? = some w → RepF G Z H d w) {p : Addr} (n : H p = none) : Q (.ref p) (upd H p (.lst vs)) :=
  h _ _ Z (fun x => x = p) (same_upd n) (fun _ z => z) (fun _ z => .inl z) (.lo upd_same hl (fun i d w e1 e2 => (he i d w e1 e2).same (same_upd n)) fun _ => Iff.rfl) fun x e => by
    subst e
    exact ⟨n, fun z => by obtain ⟨o, q⟩ := zs x z; rw [n] at q; cases q⟩
/-- a new tuple: frozen at once -/
theorem OkV.tup {xs : List D} {vs : List V} (h : OkV G Z H (.tup xs) Q) (hl : xs.length = vs.length) (he : ∀ (i : Nat) d w, xs[i]? = some d → vs[i]? = some w → RepF G Z H d w) {p : Addr} (n : H p = none) : Q (.ref p) (upd H p (.tup vs)) :=
  h _ _ (fun x => Z x ∨ x = p) S0 (same_upd n) (fun _ z => .inl z) (fun a z => z.imp id fun q => by subst q; exact ⟨n, _, upd_same⟩)
    (.fz (.tup (.inl ⟨.inr rfl, .inl upd_same⟩) hl fun i d w e1 e2 => (he i d w e1 e2).mono (fun _ z => .inl z) fun a _ o e => same_upd n a o e) fun _ z => z) fun _ z => z.elim
theorem argv0 {ds : List D} {vs : List V} (a : ArgV G Z S H ds vs) (e : ds = []) : vs = [] := by
  subst e
  cases vs with
  | nil => rfl
  | cons _ _ => exact absurd a.1 (by simp)
theorem argv1 {a1 : D} {vs : List V} (a : ArgV G Z S H [a1] vs) : ∃ x A, vs = [x] ∧ Rep G Z S H a1 x A := by
  obtain ⟨hl, h⟩ := a
  match vs, hl with
  | [x], _ =>
    obtain ⟨A, r⟩ := h 0 a1 x rfl rfl
    exact ⟨x, A, rfl, r⟩
theorem argv2 {a1 a2 : D} {vs : List V} (a : ArgV G Z S H [a1, a2] vs) : ∃ x y A B, vs = [x, y] ∧ Rep G Z S H a1 x A ∧ Rep G Z S H a2 y B := by
  obtain ⟨hl, h⟩ := a
  match vs, hl with
  | [x, y], _ =>
    obtain ⟨A, r⟩ := h 0 a1 x rfl rfl
    obtain ⟨B, r'⟩ := h 1 a2 y rfl rfl
    exact ⟨x, y, A, B, rfl, r, r'⟩
theorem argv3 {a1 a2 a3 : D} {vs : List V} (a : ArgV G Z S H [a1, a2, a3] vs) : ∃ x y z A B C, vs = [x, y, z] ∧ Rep G Z S H a1 x A ∧ Rep G Z S H a2 y B ∧ Rep G Z S H a3 z C := by
  obtain ⟨hl, h⟩ := a
  match vs, hl with
  | [x, y, z], _ =>
    obtain ⟨A, r⟩ := h 0 a1 x rfl rfl
    obtain ⟨B, r'⟩ := h 1 a2 y rfl rfl
    obtain ⟨C, r''⟩ := h 2 a3 z rfl rfl
    exact ⟨x, y, z, A, B, C, rfl, r, r', r''⟩
end
end PD
/-! P, part 3: the operations. -/
namespace PD
open PySem L2 PyProof.Rows

/-- what is known where a value-level operation runs -/
structure XO (G : GC) (X : Cx) : Prop where
  K : X.K = G.K
  hu : X.A.units + 200 < cLine

def rOf (G : GC) (g : List D → Option D) : List V → Hp → VK → Prop := fun vs H Q => ∃ Z S ds d, (∀ a, Z a → ∃ o, H a = some o) ∧ ArgV G Z S H ds vs ∧ g ds = some d ∧ OkV G Z H d Q
theorem snd_of (G : GC) (g : List D → Option D) : Snd G g (rOf G g) := fun Z S H ds vs d Q zs a e h => ⟨Z, S, ds, d, zs, a, e, h⟩
def BinOk (G : GC) (X : Cx) (f : Value → Value → Sem Value) (g : List D → Option D) : Prop := OpR X f fun x y H Q => rOf G g [x, y] H Q
def UnOk (G : GC) (X : Cx) (f : Value → Sem Value) (g : List D → Option D) : Prop := UnR X f fun x H Q => rOf G g [x] H Q
def CallOk (G : GC) (X : Cx) (f : Value) (g : List D → Option D) : Prop := CallR X f fun xs H Q => rOf G g xs H Q
def MtOk (G : GC) (X : Cx) (id : String) (g : List D → Option D) : Prop := MtR X id fun x xs H Q => rOf G g (x :: xs) H Q
def IxOk (G : GC) (X : Cx) (g : List D → Option D) : Prop := IxR X fun x y H Q => rOf G g [x, y] H Q
theorem BinOk.of {G : GC} {X : Cx} {f : Value → Value → Sem Value} {g : List D → Option D} {r : R2} (h : OpR X f r) (m : ∀ x y H Q, rOf G g [x, y] H Q → r x y H Q) : BinOk G X f g := fun pins s σ H x y v u Q I rx ry q => h pins s σ H x y v u Q I rx ry (m x y H Q q)
theorem CallOk.of {G : GC} {X : Cx} {f : Value} {g : List D → Option D} {r : List V → Hp → VK → Prop} (h : CallR X f r) (m : ∀ xs H Q, rOf G g xs H Q → r xs H Q) : CallOk G X f g := fun pins s σ H xs us Q I rx q => h pins s σ H xs us Q I rx (m xs H Q q)
theorem MtOk.of {G : GC} {X : Cx} {f : String} {g : List D → Option D} {r : V → List V → Hp → VK → Prop} (h : MtR X f r) (m : ∀ x xs H Q, rOf G g (x :: xs) H Q → r x xs H Q) : MtOk G X f g := fun pins s σ H x xs v us Q I rx r' q => h pins s σ H x xs v us Q I rx r' (m x xs H Q q)
theorem IxOk.of {G : GC} {X : Cx} {g : List D → Option D} {r : R2} (h : IxR X r) (m : ∀ x y H Q, rOf G g [x, y] H Q → r x y H Q) : IxOk G X g := fun a b pins s σ H x y v u Q I rx ry q e => h a b pins s σ H x y v u Q I rx ry (m x y H Q q) e
theorem UnOk.of {G : GC} {X : Cx} {f : Value → Sem Value} {g : List D → Option D} {r : V → Hp → VK → Prop} (h : UnR X f r) (m : ∀ x H Q, rOf G g [x] H Q → r x H Q) : UnOk G X f g := fun pins s σ H x v Q I rx q => h pins s σ H x v Q I rx (m x H Q q)

/-! ### numbers -/
def mulOk (i j : Int) : Bool := (decide (-(2 ^ 64) < i) && decide (i < 2 ^ 64)) || (decide (-(2 ^ 64) < j) && decide (j < 2 ^ 64))
def gSub : List D → Option D
  | [.int i, .int j] => some (.int (i - j))
  | _ => none
def gMul : List D → Option D
  | [.int i, .int j] => if mulOk i j then some (.int (i * j)) else none
  | _ => none
def gDiv : List D → Option D
  | [.int i, .int j] => if 0 < j ∧ j < 1073741824 then some (.int (i / j)) else none
  | _ => none
def gMod : List D → Option D
  | [.int i, .int j] => if 0 < j then some (.int (i % j)) else none
  | _ => none
def gPow : List D → Option D
  | [.int i, .int j] => if 0 ≤ j ∧ j ≤ 1000000 ∧ i.natAbs < 2 ^ 64 then some (.int (i ^ j.toNat)) else none
  | _ => none
def gNeg : List D → Option D
  | [.int i] => some (.int (-i))
  | _ => none
/-- + of numbers, texts, lists -/
def gAdd : List D → Option D
  | [.int i, .int j] => some (.int (i + j))
  | [.str a, .str b] => if a.length + b.length ≤ sizeLine then some (.str (a ++ b)) else none
  | [.lst m xs, .lst n ys] => if shal m && shal n && m != .k && n != .k && decide (xs.length + ys.length ≤ sizeLine) then some (.lst .o (xs ++ ys)) else none
  | [.tup xs, .tup ys] => if !xs.isEmpty && decide (xs.length + ys.length ≤ sizeLine) then some (.tup (xs ++ ys)) else none
  | _ => none
section
variable {G : GC} {X : Cx}
theorem ok_sub (h : XO G X) : BinOk G X (binaryOp .Sub) gSub := .of op_sub fun x y H Q ⟨Z, S, ds, d, zs, a, e, k⟩ => by
  unfold gSub at e
  split at e
  · cases e
    obtain ⟨x', y', A, B, ev, r1, r2⟩ := argv2 a
    cases ev
    rw [r1.intV, r2.intV]
    exact ⟨_, _, rfl, rfl, k.int⟩
  · cases e
theorem ok_mul (h : XO G X) : BinOk G X (binaryOp .Mult) gMul := .of op_mul fun x y H Q ⟨Z, S, ds, d, zs, a, e, k⟩ => by
  unfold gMul at e
  split at e
  · rename_i i j
    split at e
    · rename_i hm
      cases e
      obtain ⟨x', y', A, B, ev, r1, r2⟩ := argv2 a
      cases ev
      rw [r1.intV, r2.intV]
      refine ⟨_, _, rfl, rfl, ?_, k.int⟩
      unfold mulOk at hm
      simp only [Bool.or_eq_true, Bool.and_eq_true, decide_eq_true_eq] at hm
      exact hm
    · cases e
  · cases e
theorem ok_div (h : XO G X) : BinOk G X (binaryOp .FloorDiv) gDiv := .of op_fdiv fun x y H Q ⟨Z, S, ds, d, zs, a, e, k⟩ => by
  unfold gDiv at e
  split at e
  · split at e
    · rename_i hm
      cases e
      obtain ⟨x', y', A, B, ev, r1, r2⟩ := argv2 a
      cases ev
      rw [r1.intV, r2.intV]
      exact ⟨_, _, rfl, rfl, hm, k.int⟩
    · cases e
  · cases e
theorem ok_mod (h : XO G X) : BinOk G X (binaryOp .Mod) gMod := .of op_mod fun x y H Q ⟨Z, S, ds, d, zs, a, e, k⟩ => by
  unfold gMod at e
  split at e
  · split at e
    · rename_i hm
      cases e
      obtain ⟨x', y', A, B, ev, r1, r2⟩ := argv2 a
      cases ev
      rw [r1.intV, r2.intV]
      exact ⟨_, _, rfl, rfl, hm, k.int⟩
    · cases e
  · cases e
theorem ok_pow (h : XO G X) : BinOk G X (binaryOp .Pow) gPow := .of op_pow fun x y H Q ⟨Z, S, ds, d, zs, a, e, k⟩ => by
  unfold gPow at e
  split at e
  · split at e
    · rename_i hm
      cases e
      obtain ⟨x', y', A, B, ev, r1, r2⟩ := argv2 a
      cases ev
      rw [r1.intV, r2.intV]
      exact ⟨_, _, rfl, rfl, hm, k.int⟩
    · cases e
  · cases e
theorem ok_neg (h : XO G X) : UnOk G X (unaryOp .USub) gNeg := .of un_neg fun x H Q ⟨Z, S, ds, d, zs, a, e, k⟩ => by
  unfold gNeg at e
  split at e
  · cases e
    obtain ⟨x', A, ev, r1⟩ := argv1 a
    cases ev
    rw [r1.intV]
    exact ⟨_, rfl, k.int⟩
  · cases e
theorem app_at {α β : Type} {R : α → β → Prop} {xs ys : List α} {vs ws : List β} (l1 : xs.length = vs.length) (h1 : ∀ (i : Nat) d w, xs[i]? = some d → vs[i]? = some w → R d w) (h2 : ∀ (i : Nat) d w, ys[i]? = some d → ws[i]? = some w → R d w) :
    ∀ (i : Nat) d w, (xs ++ ys)[i]? = some d → (vs ++ ws)[i]? = some w → R d w := fun i d w e1 e2 => by
  by_cases h : i < xs.length
  · rw [List.getElem?_append_left h] at e1
    rw [List.getElem?_append_left (l1 ▸ h)] at e2
    exact h1 i d w e1 e2
  · rw [List.getElem?_append_right (by omega)] at e1
    rw [List.getElem?_append_right (by omega)] at e2
    rw [← l1] at e2
    exact h2 _ d w e1 e2
theorem ok_add (h : XO G X) : BinOk G X (binaryOp .Add) gAdd := .of (op_add.or (op_add_str.or (op_cat.or op_catT))) fun x y H Q ⟨Z, S, ds, d, zs, a, e, k⟩ => by
  unfold gAdd at e
  split at e
  · cases e
    obtain ⟨x', y', A, B, ev, r1, r2⟩ := argv2 a
    cases ev
    rw [r1.intV, r2.intV]
    exact .inl ⟨_, _, rfl, rfl, k.int⟩
  · split at e
    · rename_i hl
      cases e
      obtain ⟨x', y', A, B, ev, r1, r2⟩ := argv2 a
      cases ev
      rw [r1.strV, r2.strV]
      exact .inr (.inl ⟨_, _, rfl, rfl, hl, k.str⟩)
    · cases e
  · split at e
    · rename_i hc
      cases e
      simp only [Bool.and_eq_true, decide_eq_true_eq, bne_iff_ne] at hc
      obtain ⟨⟨⟨⟨h1, h2⟩, h3⟩, h4⟩, h5⟩ := hc
      obtain ⟨x', y', A, B, ev, r1, r2⟩ := argv2 a
      cases ev
      obtain ⟨p, vs, rfl, _, l1, _, e1, f1⟩ := r1.lstV
      obtain ⟨q, ws, rfl, _, l2, _, e2, f2⟩ := r2.lstV
      exact .inr (.inr (.inl ⟨_, _, _, _, rfl, rfl, e1 h3, e2 h4, by omega, fun p hp => k.lst zs (by simp [l1, l2]) (app_at l1 (f1 h1) (f2 h2)) hp⟩))
    · cases e
  · rename_i xs ys
    split at e
    · rename_i hc
      cases e
      simp only [Bool.and_eq_true, decide_eq_true_eq] at hc
      obtain ⟨h1, h5⟩ := hc
      obtain ⟨x', y', A, B, ev, r1, r2⟩ := argv2 a
      cases ev
      obtain ⟨p, vs, rfl, s1, l1, f1, _⟩ := r1.tupV
      obtain ⟨q, ws, rfl, s2, l2, f2, _⟩ := r2.tupV
      refine .inr (.inr (.inr ?_))
      rw [← h.K] at s1 s2
      refine ⟨_, _, _, _, rfl, rfl, s1, s2, fun z => ?_, by omega, fun z => ?_, fun z p hp => k.tup (by simp [l1, l2]) (app_at l1 f1 f2) hp⟩
      · subst z
        have : xs = [] := List.eq_nil_of_length_eq_zero l1
        subst this
        simp at h1
      · subst z
        have : ys = [] := List.eq_nil_of_length_eq_zero l2
        subst this
        rw [List.append_nil] at k
        rw [h.K] at s1
        cases r1 with
        | fz r _ => exact k.old r
    · cases e
  · cases e
end
end PD
/-! P, part 4: comparisons, items, slices, built-in functions. -/
namespace PD
open PySem L2 PyProof.Rows

def eqD (a b : D) : Bool := PyData.eqv (toP a) (toP b)
def gEq : List D → Option D
  | [a, b] => if dp 60 a && dp 60 b then some (.bl (eqD a b)) else none
  | _ => none
def gNe : List D → Option D
  | [a, b] => if dp 60 a && dp 60 b then some (.bl (!eqD a b)) else none
  | _ => none
def notNone : D → Bool
  | .non => false
  | _ => true
def cmpOk (a b : D) : Bool := dp 60 a && dp 60 b && W.alike (toP a) (toP b) && notNone a
def gLt : List D → Option D
  | [.int i, .int j] => some (.bl (decide (i < j)))
  | [a, b] => if cmpOk a b then some (.bl (W.dataLt (toP a) (toP b))) else none
  | _ => none
def gGt : List D → Option D
  | [.int i, .int j] => some (.bl (decide (j < i)))
  | [a, b] => if cmpOk a b then some (.bl (W.dataLt (toP b) (toP a))) else none
  | _ => none
def gLe : List D → Option D
  | [.int i, .int j] => some (.bl (decide (i ≤ j)))
  | [a, b] => if cmpOk a b then some (.bl (!W.dataLt (toP b) (toP a))) else none
  | _ => none
def gGe : List D → Option D
  | [.int i, .int j] => some (.bl (decide (j ≤ i)))
  | [a, b] => if cmpOk a b then some (.bl (!W.dataLt (toP a) (toP b))) else none
  | _ => none
def isNon : D → Bool
  | .non => true
  | _ => false
def gIs : List D → Option D
  | [a, .non] => some (.bl (isNon a))
  | _ => none
def gIsNot : List D → Option D
  | [a, .non] => some (.bl (!isNon a))
  | _ => none
/-- one text in another -/
def inStr (x z : Str) : Bool := match x.cps.toList with
  | [c] => decide (c ∈ z.cps.toList)
  | _ => !(Builtin.Str.occurrences z x 0 z.length 1).isEmpty
def gIn : List D → Option D
  | [.str x, .str z] => some (.bl (inStr x z))
  | [x, .lst _ ys] => if dp 60 x && dpL 60 ys then some (.bl (ys.any fun y => eqD y x)) else none
  | [x, .tup ys] => if dp 60 x && dpL 60 ys then some (.bl (ys.any fun y => eqD y x)) else none
  | _ => none
def gNotIn : List D → Option D
  | [.str x, .str z] => some (.bl (!inStr x z))
  | [x, .lst _ ys] => if dp 60 x && dpL 60 ys then some (.bl (!ys.any fun y => eqD y x)) else none
  | [x, .tup ys] => if dp 60 x && dpL 60 ys then some (.bl (!ys.any fun y => eqD y x)) else none
  | _ => none
section
variable {G : GC} {X : Cx}
theorem fin_b {pins : List (Addr × Obj)} {σ : L2.St} {H : Hp} {s : Shared} {Q : VK} {k : Bool} (I : Inv X pins σ H s) (q : Q (.bl k) H) : EP X pins σ Q (.bool k) s := ⟨.bl k, H, I, rfl, q⟩
theorem ok_eq (h : XO G X) : BinOk G X (compareOp .Eq) gEq := by
  intro pins s σ H x y v u Q I rx ry ⟨Z, S, ds, d, zs, a, e, k⟩
  unfold gEq at e
  split at e
  · split at e
    · rename_i a1 a2 hc
      rw [Bool.and_eq_true] at hc
      cases e
      obtain ⟨x', y', A, B, ev, r1, r2⟩ := argv2 a
      cases ev
      obtain ⟨as, q1⟩ := r1.reads h.K I 60 hc.1 rx
      obtain ⟨bs, q2⟩ := r2.reads h.K I 60 hc.2 ry
      obtain ⟨p1, d1⟩ := dp_plain 60 a1 hc.1
      obtain ⟨p2, d2⟩ := dp_plain 60 a2 hc.2
      exact SeqAt.eq_plain q1 q2 p1 p2 (by have := h.hu; omega) (fin_b I k.bl)
    · cases e
  · cases e
theorem ok_ne (h : XO G X) : BinOk G X (compareOp .NotEq) gNe := by
  intro pins s σ H x y v u Q I rx ry ⟨Z, S, ds, d, zs, a, e, k⟩
  unfold gNe at e
  split at e
  · split at e
    · rename_i a1 a2 hc
      rw [Bool.and_eq_true] at hc
      cases e
      obtain ⟨x', y', A, B, ev, r1, r2⟩ := argv2 a
      cases ev
      obtain ⟨as, q1⟩ := r1.reads h.K I 60 hc.1 rx
      obtain ⟨bs, q2⟩ := r2.reads h.K I 60 hc.2 ry
      obtain ⟨p1, d1⟩ := dp_plain 60 a1 hc.1
      obtain ⟨p2, d2⟩ := dp_plain 60 a2 hc.2
      exact SeqAt.ne_plain q1 q2 p1 p2 (by have := h.hu; omega) (fin_b I k.bl)
    · cases e
  · cases e
theorem cmp_get {pins : List (Addr × Obj)} {σ : L2.St} {H : Hp} {s : Shared} {Z S : AS} {a1 a2 : D} {vs : List V} {x y : V} {v u : Value} (h : XO G X) (I : Inv X pins σ H s) (rx : RelV x v) (ry : RelV y u) (a : ArgV G Z S H [a1, a2] [x, y]) (hc : cmpOk a1 a2 = true) :
    ∃ as bs, Reads s.heap v (toP a1) as ∧ Reads s.heap u (toP a2) bs ∧ W.alike (toP a1) (toP a2) = true ∧ toP a1 ≠ .none ∧ X.A.units + min (toP a1).depth (toP a2).depth < cLine := by
  unfold cmpOk at hc
  simp only [Bool.and_eq_true] at hc
  obtain ⟨⟨⟨h1, h2⟩, h3⟩, h4⟩ := hc
  obtain ⟨x', y', A, B, ev, r1, r2⟩ := argv2 a
  cases ev
  obtain ⟨as, q1⟩ := r1.reads h.K I 60 h1 rx
  obtain ⟨bs, q2⟩ := r2.reads h.K I 60 h2 ry
  obtain ⟨p1, d1⟩ := dp_plain 60 a1 h1
  refine ⟨as, bs, q1, q2, h3, fun z => ?_, by have := h.hu; omega⟩
  cases a1 <;> first | (simp [notNone] at h4; done) | (simp [toP] at z; done) | (simp [dp] at h1; done)
theorem ok_lt (h : XO G X) : BinOk G X (compareOp .Lt) gLt := by
  intro pins s σ H x y v u Q I rx ry ⟨Z, S, ds, d, zs, a, e, k⟩
  unfold gLt at e
  split at e
  · cases e
    obtain ⟨x', y', A, B, ev, r1, r2⟩ := argv2 a
    cases ev
    rw [r1.intV] at rx; rw [r2.intV] at ry
    exact op_lt pins s σ H _ _ v u Q I rx ry ⟨_, _, rfl, rfl, k.bl⟩
  · split at e
    · rename_i hc
      cases e
      obtain ⟨as, bs, q1, q2, q3, q4, q5⟩ := cmp_get (vs := []) h I rx ry a hc
      exact W.lt_data q1 q2 q3 q4 q5 (fin_b I k.bl)
    · cases e
  · cases e
theorem ok_gt (h : XO G X) : BinOk G X (compareOp .Gt) gGt := by
  intro pins s σ H x y v u Q I rx ry ⟨Z, S, ds, d, zs, a, e, k⟩
  unfold gGt at e
  split at e
  · cases e
    obtain ⟨x', y', A, B, ev, r1, r2⟩ := argv2 a
    cases ev
    rw [r1.intV] at rx; rw [r2.intV] at ry
    exact op_gt pins s σ H _ _ v u Q I rx ry ⟨_, _, rfl, rfl, k.bl⟩
  · split at e
    · rename_i hc
      cases e
      obtain ⟨as, bs, q1, q2, q3, q4, q5⟩ := cmp_get (vs := []) h I rx ry a hc
      exact W.gt_data q1 q2 q3 q4 q5 (fin_b I k.bl)
    · cases e
  · cases e
theorem ok_le (h : XO G X) : BinOk G X (compareOp .LtE) gLe := by
  intro pins s σ H x y v u Q I rx ry ⟨Z, S, ds, d, zs, a, e, k⟩
  unfold gLe at e
  split at e
  · cases e
    obtain ⟨x', y', A, B, ev, r1, r2⟩ := argv2 a
    cases ev
    rw [r1.intV] at rx; rw [r2.intV] at ry
    exact op_le pins s σ H _ _ v u Q I rx ry ⟨_, _, rfl, rfl, k.bl⟩
  · split at e
    · rename_i hc
      cases e
      obtain ⟨as, bs, q1, q2, q3, q4, q5⟩ := cmp_get (vs := []) h I rx ry a hc
      exact W.le_data q1 q2 q3 q4 q5 (fin_b I k.bl)
    · cases e
  · cases e
theorem ok_ge (h : XO G X) : BinOk G X (compareOp .GtE) gGe := by
  intro pins s σ H x y v u Q I rx ry ⟨Z, S, ds, d, zs, a, e, k⟩
  unfold gGe at e
  split at e
  · cases e
    obtain ⟨x', y', A, B, ev, r1, r2⟩ := argv2 a
    cases ev
    rw [r1.intV] at rx; rw [r2.intV] at ry
    exact op_ge pins s σ H _ _ v u Q I rx ry ⟨_, _, rfl, rfl, k.bl⟩
  · split at e
    · rename_i hc
      cases e
      obtain ⟨as, bs, q1, q2, q3, q4, q5⟩ := cmp_get (vs := []) h I rx ry a hc
      exact W.ge_data q1 q2 q3 q4 q5 (fin_b I k.bl)
    · cases e
  · cases e
theorem isNon_v {Z S : AS} {H : Hp} {d : D} {v : V} {A : AS} (r : Rep G Z S H d v A) : decide (v = .non) = isNon d := by
  cases r with
  | fz h hA => cases h <;> simp [isNon]
  | _ => simp [isNon]
theorem ok_is (h : XO G X) : BinOk G X (compareOp .Is) gIs := .of op_isN fun x y H Q ⟨Z, S, ds, d, zs, a, e, k⟩ => by
  unfold gIs at e
  split at e
  · cases e
    obtain ⟨x', y', A, B, ev, r1, r2⟩ := argv2 a
    cases ev
    refine ⟨r2.nonV, ?_⟩
    rw [isNon_v r1]; exact k.bl
  · cases e
theorem ok_isNot (h : XO G X) : BinOk G X (compareOp .IsNot) gIsNot := .of op_notN fun x y H Q ⟨Z, S, ds, d, zs, a, e, k⟩ => by
  unfold gIsNot at e
  split at e
  · cases e
    obtain ⟨x', y', A, B, ev, r1, r2⟩ := argv2 a
    cases ev
    refine ⟨r2.nonV, ?_⟩
    rw [isNon_v r1]; exact k.bl
  · cases e
theorem any_map (ys : List D) (x : D) : (toPL ys).any (fun y => PyData.eqv y (toP x)) = ys.any fun y => eqD y x := by
  rw [toPL_eq, List.any_map]; rfl
theorem str1 {x : Str} {c : Nat} (h : x.cps.toList = [c]) : x = ⟨#[c]⟩ := by
  obtain ⟨a⟩ := x
  have : a = #[c] := Array.toList_inj.mp (by simpa using h)
  rw [this]
theorem ok_in (h : XO G X) : BinOk G X (compareOp .In) gIn := by
  intro pins s σ H x y v u Q I rx ry ⟨Z, S, ds, d, zs, a, e, k⟩
  unfold gIn at e
  split at e
  · rename_i x' z'
    cases e
    obtain ⟨_, _, A, B, ev, r1, r2⟩ := argv2 a
    cases ev
    rw [r1.strV] at rx; rw [r2.strV] at ry
    have k' := k.bl
    unfold inStr at k'
    split at k'
    · rename_i c hc
      exact op_in_sign pins s σ H _ _ v u Q I rx ry ⟨c, z', by rw [str1 hc], rfl, k'⟩
    · exact op_in_str pins s σ H _ _ v u Q I rx ry ⟨x', z', rfl, rfl, k'⟩
  · split at e
    · rename_i x' m ys hc
      rw [Bool.and_eq_true] at hc
      cases e
      obtain ⟨_, _, A, B, ev, r1, r2⟩ := argv2 a
      cases ev
      obtain ⟨as, q1⟩ := r1.reads h.K I 60 hc.1 rx
      obtain ⟨bs, q2⟩ := r2.reads h.K I 61 (by rw [dp]; exact hc.2) ry
      obtain ⟨p1, d1⟩ := dp_plain 60 x' hc.1
      obtain ⟨p2, d2⟩ := dpL_plain 60 ys hc.2
      have k' := k.bl
      rw [← any_map] at k'
      exact SeqAt.in_list_data q2 q1 p2 p1 (by have := h.hu; omega) (fin_b I k')
    · cases e
  · split at e
    · rename_i x' ys hc
      rw [Bool.and_eq_true] at hc
      cases e
      obtain ⟨_, _, A, B, ev, r1, r2⟩ := argv2 a
      cases ev
      obtain ⟨as, q1⟩ := r1.reads h.K I 60 hc.1 rx
      obtain ⟨bs, q2⟩ := r2.reads h.K I 61 (by rw [dp]; exact hc.2) ry
      obtain ⟨p1, d1⟩ := dp_plain 60 x' hc.1
      obtain ⟨p2, d2⟩ := dpL_plain 60 ys hc.2
      have k' := k.bl
      rw [← any_map] at k'
      exact SeqAt.in_tuple_data q2 q1 p2 p1 (by have := h.hu; omega) (fin_b I k')
    · cases e
  · cases e
theorem ok_notIn (h : XO G X) : BinOk G X (compareOp .NotIn) gNotIn := by
  intro pins s σ H x y v u Q I rx ry ⟨Z, S, ds, d, zs, a, e, k⟩
  unfold gNotIn at e
  split at e
  · rename_i x' z'
    cases e
    obtain ⟨_, _, A, B, ev, r1, r2⟩ := argv2 a
    cases ev
    rw [r1.strV] at rx; rw [r2.strV] at ry
    have k' := k.bl
    unfold inStr at k'
    split at k'
    · rename_i c hc
      exact op_notIn_sign pins s σ H _ _ v u Q I rx ry ⟨c, z', by rw [str1 hc], rfl, k'⟩
    · exact op_notin_str pins s σ H _ _ v u Q I rx ry ⟨x', z', rfl, rfl, k'⟩
  · split at e
    · rename_i x' m ys hc
      rw [Bool.and_eq_true] at hc
      cases e
      obtain ⟨_, _, A, B, ev, r1, r2⟩ := argv2 a
      cases ev
      obtain ⟨as, q1⟩ := r1.reads h.K I 60 hc.1 rx
      obtain ⟨bs, q2⟩ := r2.reads h.K I 61 (by rw [dp]; exact hc.2) ry
      obtain ⟨p1, d1⟩ := dp_plain 60 x' hc.1
      obtain ⟨p2, d2⟩ := dpL_plain 60 ys hc.2
      have k' := k.bl
      rw [← any_map] at k'
      exact SeqAt.notIn_list_data q2 q1 p2 p1 (by have := h.hu; omega) (fin_b I k')
    · cases e
  · split at e
    · rename_i x' ys hc
      rw [Bool.and_eq_true] at hc
      cases e
      obtain ⟨_, _, A, B, ev, r1, r2⟩ := argv2 a
      cases ev
      obtain ⟨as, q1⟩ := r1.reads h.K I 60 hc.1 rx
      obtain ⟨bs, q2⟩ := r2.reads h.K I 61 (by rw [dp]; exact hc.2) ry
      obtain ⟨p1, d1⟩ := dp_plain 60 x' hc.1
      obtain ⟨p2, d2⟩ := dpL_plain 60 ys hc.2
      have k' := k.bl
      rw [← any_map] at k'
      exact SeqAt.notIn_tuple_data q2 q1 p2 p1 (by have := h.hu; omega) (fin_b I k')
    · cases e
  · cases e

/-! ### items, slices -/
theorem atI_el {α β : Type} {xs : List α} {vs : List β} {i : Int} {x : α} (hl : xs.length = vs.length) (h : atI xs i = some x) : ∃ (j : Nat) (w : β), xs[j]? = some x ∧ vs[j]? = some w ∧ atI vs i = some w := by
  unfold atI at h ⊢
  rw [hl] at h
  cases e : ixN vs.length i with
  | none => rw [e] at h; cases h
  | some j =>
    rw [e] at h
    have h' : xs[j]? = some x := h
    have hj : j < vs.length := hl ▸ (List.getElem?_eq_some_iff.mp h').1
    exact ⟨j, vs[j], h', by simp [hj], by simp [hj]⟩
def gItem : List D → Option D
  | [.lst _ xs, .int i] => (atI xs i).bind fun d => if isF d then some d else none
  | [.tup xs, .int i] => atI xs i
  | [.str z, .int i] => if z.length ≤ sizeLine then (atI z.cps.toList i).map fun c => .str ⟨#[c]⟩ else none
  | _ => none
theorem ok_item (h : XO G X) : IxOk G X gItem := .of ix_seq fun x y H Q ⟨Z, S, ds, d, zs, a, e, k⟩ => by
  unfold gItem at e
  split at e
  · rename_i m xs i
    obtain ⟨_, _, A, B, ev, r1, r2⟩ := argv2 a
    cases ev
    rw [r2.intV]
    cases q : atI xs i with
    | none => rw [q] at e; cases e
    | some d' =>
      rw [q] at e
      simp only [Option.bind_some] at e
      split at e
      · rename_i hf
        cases e
        obtain ⟨p, vs, rfl, sq, hl, he, _⟩ := r1.lstV
        obtain ⟨j, w, e1, e2, e3⟩ := atI_el hl q
        obtain ⟨B', rB, _⟩ := he j d w e1 e2
        rw [← h.K] at sq
        exact .inl ⟨p, vs, i, w, rfl, rfl, sq, e3, k.old (rB.frozen hf).1⟩
      · cases e
  · rename_i xs i
    obtain ⟨_, _, A, B, ev, r1, r2⟩ := argv2 a
    cases ev
    rw [r2.intV]
    obtain ⟨p, vs, rfl, sq, hl, he, _⟩ := r1.tupV
    obtain ⟨j, w, e1, e2, e3⟩ := atI_el hl e
    rw [← h.K] at sq
    exact .inr (.inl ⟨p, vs, i, w, rfl, rfl, sq, e3, k.old (he j d w e1 e2)⟩)
  · rename_i z i
    split at e
    · rename_i hz
      obtain ⟨_, _, A, B, ev, r1, r2⟩ := argv2 a
      cases ev
      rw [r2.intV, r1.strV]
      cases q : atI z.cps.toList i with
      | none => rw [q] at e; cases e
      | some c =>
        rw [q] at e
        cases e
        exact .inr (.inr ⟨z, i, c, rfl, rfl, hz, q, k.str⟩)
    · cases e
  · cases e
/-! ### built-in functions -/
def gLen : List D → Option D
  | [.str z] => if z.length ≤ sizeLine then some (.int z.length) else none
  | [.lst _ xs] => some (.int xs.length)
  | [.tup xs] => some (.int xs.length)
  | _ => none
theorem ok_len (h : XO G X) : CallOk G X (.builtin "len") gLen := .of (call_len_str.or call_len_seq) fun xs H Q ⟨Z, S, ds, d, zs, a, e, k⟩ => by
  unfold gLen at e
  split at e
  · split at e
    · rename_i hz
      cases e
      obtain ⟨_, A, rfl, r1⟩ := argv1 a
      rw [r1.strV]
      exact .inl ⟨_, rfl, hz, k.int⟩
    · cases e
  · cases e
    obtain ⟨_, A, rfl, r1⟩ := argv1 a
    obtain ⟨p, vs, rfl, sq, hl, he, _⟩ := r1.lstV
    rw [← h.K] at sq
    exact .inr ⟨p, vs, rfl, .inl sq, by rw [← hl]; exact k.int⟩
  · cases e
    obtain ⟨_, A, rfl, r1⟩ := argv1 a
    obtain ⟨p, vs, rfl, sq, hl, he, _⟩ := r1.tupV
    rw [← h.K] at sq
    exact .inr ⟨p, vs, rfl, .inr sq, by rw [← hl]; exact k.int⟩
  · cases e
def gAbs : List D → Option D
  | [.int i] => some (.int (if i < 0 then -i else i))
  | _ => none
theorem ok_abs (h : XO G X) : CallOk G X (.builtin "abs") gAbs := .of call_abs fun xs H Q ⟨Z, S, ds, d, zs, a, e, k⟩ => by
  unfold gAbs at e
  split at e
  · cases e
    obtain ⟨_, A, rfl, r1⟩ := argv1 a
    rw [r1.intV]
    exact ⟨_, rfl, k.int⟩
  · cases e
def gIntOf : List D → Option D
  | [.int i] => some (.int i)
  | [.bl b] => some (.int (if b then 1 else 0))
  | [.str z] => if z.length ≤ 640 then (PySem.intText? z).map fun n => .int n else none
  | _ => none
theorem ok_int (h : XO G X) : CallOk G X (.type "int") gIntOf := .of (call_int1.or call_int_str) fun xs H Q ⟨Z, S, ds, d, zs, a, e, k⟩ => by
  unfold gIntOf at e
  split at e
  · cases e
    obtain ⟨_, A, rfl, r1⟩ := argv1 a
    rw [r1.intV]
    exact .inl (.inl ⟨_, rfl, k.int⟩)
  · cases e
    obtain ⟨_, A, rfl, r1⟩ := argv1 a
    rw [r1.blV]
    exact .inl (.inr ⟨_, rfl, k.int⟩)
  · rename_i z
    split at e
    · rename_i hz
      obtain ⟨_, A, rfl, r1⟩ := argv1 a
      rw [r1.strV]
      cases q : PySem.intText? z with
      | none => rw [q] at e; cases e
      | some n =>
        rw [q] at e
        cases e
        exact .inr ⟨z, n, rfl, q, hz, k.int⟩
    · cases e
  · cases e
def gStrOf : List D → Option D
  | [.int i] => if i.natAbs.log2 < 1920 then some (.str (toString i)) else none
  | _ => none
theorem ok_str (h : XO G X) : CallOk G X (.type "str") gStrOf := .of call_str_int fun xs H Q ⟨Z, S, ds, d, zs, a, e, k⟩ => by
  unfold gStrOf at e
  split at e
  · split at e
    · rename_i hz
      cases e
      obtain ⟨_, A, rfl, r1⟩ := argv1 a
      rw [r1.intV]
      exact ⟨_, rfl, hz, k.str⟩
    · cases e
  · cases e
/-- list(x) of a list or a tuple -/
def gList : List D → Option D
  | [.lst m xs] => if shal m then some (.lst .o xs) else none
  | [.tup xs] => some (.lst .o xs)
  | _ => none
theorem ok_list (h : XO G X) : CallOk G X (.type "list") gList := .of call_list_of fun xs H Q ⟨Z, S, ds, d, zs, a, e, k⟩ => by
  unfold gList at e
  split at e
  · split at e
    · rename_i hs
      cases e
      obtain ⟨_, A, rfl, r1⟩ := argv1 a
      obtain ⟨p, vs, rfl, sq, hl, he, _, hf⟩ := r1.lstV
      rw [← h.K] at sq
      exact ⟨p, vs, rfl, .inl sq, fun l hn => k.lst zs hl (hf hs) hn⟩
    · cases e
  · cases e
    obtain ⟨_, A, rfl, r1⟩ := argv1 a
    obtain ⟨p, vs, rfl, sq, hl, hf, _⟩ := r1.tupV
    rw [← h.K] at sq
    exact ⟨p, vs, rfl, .inr sq, fun l hn => k.lst zs hl hf hn⟩
  · cases e
def gTuple : List D → Option D
  | [.lst m xs] => if shal m then some (.tup xs) else none
  | [.tup xs] => some (.tup xs)
  | _ => none
theorem ok_tuple (h : XO G X) : CallOk G X (.type "tuple") gTuple := .of call_tuple_of fun xs H Q ⟨Z, S, ds, d, zs, a, e, k⟩ => by
  unfold gTuple at e
  split at e
  · split at e
    · rename_i hs
      cases e
      obtain ⟨_, A, rfl, r1⟩ := argv1 a
      obtain ⟨p, vs, rfl, sq, hl, he, _, hf⟩ := r1.lstV
      rw [← h.K] at sq
      exact ⟨p, vs, rfl, .inl ⟨sq, fun l hn => k.tup hl (hf hs) hn⟩⟩
    · cases e
  · cases e
    obtain ⟨_, A, rfl, r1⟩ := argv1 a
    obtain ⟨p, vs, rfl, sq, hl, hf, _⟩ := r1.tupV
    rw [← h.K] at sq
    refine ⟨p, vs, rfl, .inr ⟨sq, ?_⟩⟩
    cases r1 with
    | fz r _ => exact k.old r
  · cases e
end
end PD
/-! P, part 5: names frozen or moved, displays, ways. -/
namespace PD
open PySem L2

/-- what is stored elsewhere is frozen -/
def cap (d : D) : D := if isF d then d else frz d
/-- a view is stored elsewhere only if it is frozen -/
def capOk : List Bool → List D → Bool
  | k :: ks, d :: ds => (!k || isF d) && capOk ks ds
  | _, _ => true
theorem capOk_at : ∀ {ks : List Bool} {ds : List D} {j : Nat} {d : D}, capOk ks ds = true → ks[j]? = some true → ds[j]? = some d → isF d = true
  | [], _, j, d, _, h, _ => by simp at h
  | k :: ks, [], j, d, _, _, h => by simp at h
  | k :: ks, d' :: ds, 0, d, hc, h1, h2 => by
    simp at h1 h2
    subst h1 h2
    simp [capOk] at hc
    exact hc.1
  | k :: ks, d' :: ds, j + 1, d, hc, h1, h2 => by
    simp [capOk] at hc
    exact capOk_at hc.2 (by simpa using h1) (by simpa using h2)
mutual
/-- no lent node that its holder would freeze -/
def noL : D → Bool
  | .lst m xs => match m with | .l => false | .ll => false | .oo => noLL xs | _ => true
  | .dic m xs => match m with | .l => false | .ll => false | .oo => noLK xs | _ => true
  | .dit m _ => match m with | .l => false | _ => true
  | .ins m _ xs => match m with | .f => true | .oo => noLN xs | _ => false
  | .exc _ _ => false
  | _ => true
def noLL : List D → Bool
  | [] => true
  | d :: r => noL d && noLL r
def noLK : List (Key × D) → Bool
  | [] => true
  | (_, d) :: r => noL d && noLK r
def noLN : List (Nat × D) → Bool
  | [] => true
  | (_, d) :: r => noL d && noLN r
end
theorem noLL_at : ∀ {xs : List D} {i : Nat} {d : D}, noLL xs = true → xs[i]? = some d → noL d = true
  | d :: r, 0, _, h, e => by simp at e; subst e; rw [noLL, Bool.and_eq_true] at h; exact h.1
  | d :: r, i + 1, _, h, e => by rw [noLL, Bool.and_eq_true] at h; exact noLL_at h.2 (by simpa using e)
theorem noLK_at : ∀ {xs : List (Key × D)} {i : Nat} {p : Key × D}, noLK xs = true → xs[i]? = some p → noL p.2 = true
  | (_, d) :: r, 0, _, h, e => by simp at e; subst e; rw [noLK, Bool.and_eq_true] at h; exact h.1
  | (_, d) :: r, i + 1, _, h, e => by rw [noLK, Bool.and_eq_true] at h; exact noLK_at h.2 (by simpa using e)
theorem noLN_at : ∀ {xs : List (Nat × D)} {i : Nat} {p : Nat × D}, noLN xs = true → xs[i]? = some p → noL p.2 = true
  | (_, d) :: r, 0, _, h, e => by simp at e; subst e; rw [noLN, Bool.and_eq_true] at h; exact h.1
  | (_, d) :: r, i + 1, _, h, e => by rw [noLN, Bool.and_eq_true] at h; exact noLN_at h.2 (by simpa using e)
theorem Rep.noL {G : GC} {Z S : AS} {H : Hp} {d : D} {v : V} {A : AS} (r : Rep G Z S H d v A) : noL d = true → Rep G Z S0 H d v A := by
  induction r with
  | fz h hA => exact fun _ => .fz h hA
  | lo h hl he hA => exact fun _ => .lo h hl he hA
  | loo B h hl he hd hn ho hA ih => exact fun q => .loo B h hl (fun i d v e1 e2 => ih i d v e1 e2 (noLL_at (show noLL _ = true from q) e1)) hd hn ho hA
  | ll s h hl he hA => exact fun q => absurd (show false = true from q) Bool.false_ne_true
  | lll s h hl he hA ih => exact fun q => absurd (show false = true from q) Bool.false_ne_true
  | dco h hl he hA => exact fun _ => .dco h hl he hA
  | dcoo B h hl he hd hn ho hA ih => exact fun q => .dcoo B h hl (fun i d v e1 e2 => ih i d v e1 e2 (noLK_at (show noLK _ = true from q) e1)) hd hn ho hA
  | dcl s h hl he hA => exact fun q => absurd (show false = true from q) Bool.false_ne_true
  | dcll s h hl he hA ih => exact fun q => absurd (show false = true from q) Bool.false_ne_true
  | dto h hl he hA => exact fun _ => .dto h hl he hA
  | dtl s h hl he hA => exact fun q => absurd (show false = true from q) Bool.false_ne_true
  | ioo B h hl he hd hn ho hA ih => exact fun q => .ioo B h hl (fun i d v e1 e2 => ih i d v e1 e2 (noLN_at (show noLN _ = true from q) e1)) hd hn ho hA
  | ill s h hl he hA ih => exact fun q => absurd (show false = true from q) Bool.false_ne_true
/-- a name, frozen by being read -/
def evFv (i : Nat) : DS → Option ER := fun δ => match δ[i]? with
  | some (some d) => if isF d then some (.ok d, δ) else if noL d then some (.ok (frz d), δ.set i (some (frz d))) else none
  | _ => none
/-- a name, given away -/
def evMv (i : Nat) : DS → Option ER := fun δ => match δ[i]? with
  | some (some d) => if noL d then some (.ok d, δ.set i none) else none
  | _ => none
def evTup (ks : List Bool) (fa : DS → Option EA) : DS → Option ER := fun δ => match fa δ with
  | none => none
  | some (.ex x, δ') => some (.ex x, δ')
  | some (.ok ds, δ') => if capOk ks ds && decide (ds.length ≤ 1000) then some (.ok (.tup (ds.map cap)), δ') else none
def evLst (ks : List Bool) (fa : DS → Option EA) : DS → Option ER := fun δ => match fa δ with
  | none => none
  | some (.ex x, δ') => some (.ex x, δ')
  | some (.ok ds, δ') => if capOk ks ds && decide (ds.length ≤ 1000) then some (.ok (.lst .o (ds.map cap)), δ') else none

section
variable {G : GC} {W : WX} {X : Cx}
/-- no lent node: such data is owned or frozen through and through -/
theorem Rep.unlent {Z S : AS} {H : Hp} {d : D} {v : V} {A : AS} (r : Rep G Z S H d v A) (s : ∀ a, S a → False) : Rep G Z S0 H d v A :=
  r.mono (fun _ z => z) (fun a z => (s a z).elim) fun _ _ _ e => e
theorem set_at {α : Type} {xs : List (Option α)} {i j : Nat} {y : Option α} {d : α} (h : (xs.set i y)[j]? = some (some d)) : (j = i ∧ y = some d) ∨ (j ≠ i ∧ xs[j]? = some (some d)) := by
  by_cases e : j = i
  · subst e
    by_cases hl : j < xs.length
    · rw [List.getElem?_set_self hl] at h
      exact .inl ⟨rfl, Option.some.inj h⟩
    · rw [List.getElem?_eq_none (by simpa using hl)] at h; cases h
  · rw [List.getElem?_set_ne (Ne.symm e)] at h
    exact .inr ⟨e, h⟩
/-- a slot's value is frozen in its place -/
theorem SR.freeze {Z : AS} {S : Nat → AS} {H : Hp} {δ : DS} {σ : St} {FS : Nat → AS} {i : Nat} {d d' : D} {v : V} (r : SR G Z S H δ σ FS) (e : δ[i]? = some (some d)) (ev : σ[i]? = some (some v)) (rf : RepF G (fun x => Z x ∨ FS i x) H d' v) :
    SR G (fun x => Z x ∨ FS i x) S H (δ.set i (some d')) σ (fun j x => j ≠ i ∧ FS j x) where
  len := by rw [List.length_set]; exact r.len
  slot := fun j w ew => by
    rcases set_at ew with ⟨hj, ew2⟩ | ⟨hj, ew2⟩
    · cases ew2
      exact ⟨v, by rw [hj]; exact ev, .fz rf fun x q => q.1 hj⟩
    · obtain ⟨u, eu, rp⟩ := r.slot j w ew2
      refine ⟨u, eu, (rp.mono (fun _ z => .inl z) (fun _ z => z) fun _ _ _ e => e).congr fun x => ⟨fun q => q.2, fun q => ⟨hj, q⟩⟩⟩
  empt := fun j h x q => by
    by_cases hj : j = i
    · exact q.1 hj
    · refine r.empt j (fun w ew => h w ?_) x q.2
      rw [List.getElem?_set_ne (Ne.symm hj)]; exact ew
  disj := fun j k x a b => r.disj j k x a.2 b.2
  zs := fun a z => z.elim (r.zs a) fun q => r.own a ⟨i, q⟩
  ss := r.ss
  nz := fun a ⟨j, hj, q⟩ => ⟨fun z => z.elim (r.nz a ⟨j, q⟩).1 fun z => hj (r.disj j i a q z), (r.nz a ⟨j, q⟩).2⟩
theorem frz_of {Z : AS} {H : Hp} {d : D} {v : V} (r : RepF G Z H d v) : isF d = true := by cases r <;> rfl
theorem isF_frz {Z S : AS} {H : Hp} {d : D} {v : V} {A : AS} (r : Rep G Z S0 H d v A) : isF (frz d) = true := frz_of r.freeze
theorem rd_fv {i : Nat} : ∀ σ H Q, rdE G W false false (evFv i) σ H Q → tVar i σ H Q := by
  rintro σ H Q ⟨δ, Z, S, FS, sr, ⟨r, hr⟩, ok, -⟩
  unfold evFv at hr ok
  cases e : δ[i]? with
  | none => rw [e] at hr; cases hr
  | some q =>
    cases q with
    | none => rw [e] at hr; cases hr
    | some d =>
      simp only [e] at hr ok
      obtain ⟨v, ev, rp⟩ := sr.slot i d e
      by_cases hF : isF d = true
      · rw [if_pos hF] at ok
        obtain ⟨rf, nA⟩ := rp.frozen hF
        refine ⟨v, ev, ok d δ rfl v H Z FS S0 ⟨sr, Step.quiet fun x h => h.elim, ?_, fun q => absurd q Bool.false_ne_true⟩⟩
        rw [if_neg Bool.false_ne_true]
        exact ⟨.fz rf fun _ h => h, fun x h => h.elim⟩
      · rw [if_neg hF] at hr ok
        by_cases hN : noL d = true
        · rw [if_pos hN] at ok
          have rf := (rp.noL hN).freeze
          refine ⟨v, ev, ok (frz d) _ rfl v H _ _ S0 ⟨sr.freeze e ev rf, ?_, ?_, fun q => absurd q Bool.false_ne_true⟩⟩
          · exact ⟨fun a o e _ => e, fun a o e => ⟨o, e⟩, fun a z => .inl z, fun a z => z.imp id fun q => .inl ⟨i, q⟩, fun a z => z.elim (fun ⟨j, _, q⟩ => .inl ⟨j, q⟩) fun q => q.elim⟩
          · rw [if_neg Bool.false_ne_true]
            exact ⟨.fz rf fun _ h => h, fun x h => h.elim⟩
        · rw [if_neg hN] at hr; cases hr
/-- a slot is emptied -/
theorem SR.clear {Z : AS} {S : Nat → AS} {H : Hp} {δ : DS} {σ : St} {FS : Nat → AS} {i : Nat} (r : SR G Z S H δ σ FS) : SR G Z S H (δ.set i none) σ (fun j x => j ≠ i ∧ FS j x) where
  len := by rw [List.length_set]; exact r.len
  slot := fun j w ew => by
    rcases set_at ew with ⟨hj, ew2⟩ | ⟨hj, ew2⟩
    · cases ew2
    · obtain ⟨u, eu, rp⟩ := r.slot j w ew2
      exact ⟨u, eu, rp.congr fun x => ⟨fun q => q.2, fun q => ⟨hj, q⟩⟩⟩
  empt := fun j h x q => by
    refine r.empt j (fun w ew => h w ?_) x q.2
    rw [List.getElem?_set_ne (Ne.symm q.1)]; exact ew
  disj := fun j k x a b => r.disj j k x a.2 b.2
  zs := r.zs
  ss := r.ss
  nz := fun a ⟨j, hj, q⟩ => r.nz a ⟨j, q⟩
theorem rd_mv {i : Nat} : ∀ σ H Q, rdE G W false false (evMv i) σ H Q → tVar i σ H Q := by
  rintro σ H Q ⟨δ, Z, S, FS, sr, ⟨r, hr⟩, ok, -⟩
  unfold evMv at hr ok
  cases e : δ[i]? with
  | none => rw [e] at hr; cases hr
  | some q =>
    cases q with
    | none => rw [e] at hr; cases hr
    | some d =>
      simp only [e] at hr ok
      obtain ⟨v, ev, rp⟩ := sr.slot i d e
      by_cases hN : noL d = true
      · rw [if_pos hN] at ok
        refine ⟨v, ev, ok d _ rfl v H Z _ (FS i) ⟨sr.clear, ?_, ?_, fun q => absurd q Bool.false_ne_true⟩⟩
        · exact (Step.refl H Z (Own FS)).sub fun a z => z.elim (fun ⟨j, _, q⟩ => ⟨j, q⟩) fun q => ⟨i, q⟩
        · rw [if_neg Bool.false_ne_true]
          exact ⟨rp.noL hN, fun x h => ⟨(sr.nz x ⟨i, h⟩).1, (sr.nz x ⟨i, h⟩).2, fun ⟨j, hj, q⟩ => hj (sr.disj j i x q h)⟩⟩
      · rw [if_neg hN] at hr; cases hr
/-- what the arguments hold goes to Z -/
theorem caps {Z S : AS} {H : Hp} {FS : Nat → AS} {ks : List Bool} {ds : List D} {vs : List V} {B : Nat → AS} (a : ArgR G Z S H FS ks ds vs B) (hc : capOk ks ds = true) :
    ∀ (j : Nat) d v, (ds.map cap)[j]? = some d → vs[j]? = some v → RepF G (fun x => Z x ∨ Tm ks B x) H d v := fun j d v e1 e2 => by
  obtain ⟨d0, e0, rfl⟩ := getMap e1
  have hj : j < ds.length := (List.getElem?_eq_some_iff.mp e0).1
  have hk : j < ks.length := by rw [a.l2]; exact hj
  have ek : ks[j]? = some ks[j] := by simp [hk]
  have q := a.rep j d0 v ks[j] e0 e2 ek
  unfold cap
  cases hkv : ks[j] with
  | true =>
    rw [hkv, if_pos rfl] at q
    rw [hkv] at ek
    have hF := capOk_at hc ek e0
    rw [if_pos hF]
    exact (q.1.frozen hF).1.mono (fun _ z => .inl z) fun _ _ _ e => e
  | false =>
    rw [hkv, if_neg Bool.false_ne_true] at q
    rw [hkv] at ek
    by_cases hF : isF d0 = true
    · rw [if_pos hF]
      exact (q.1.frozen hF).1.mono (fun _ z => .inl z) fun _ _ _ e => e
    · rw [if_neg hF]
      exact q.1.freeze.mono (fun x z => z.imp id fun w => ⟨j, ek, w⟩) fun _ _ _ e => e
/-- .. and the state stays -/
theorem SR.more {Z : AS} {S : Nat → AS} {H : Hp} {δ : DS} {σ : St} {FS : Nat → AS} {T : AS} (r : SR G Z S H δ σ FS) (ht : ∀ x, T x → (∃ o, H x = some o) ∧ ¬ Own S x ∧ ¬ Own FS x) : SR G (fun x => Z x ∨ T x) S H δ σ FS where
  len := r.len
  slot := fun i d e => let ⟨v, e1, rp⟩ := r.slot i d e; ⟨v, e1, rp.mono (fun _ z => .inl z) (fun _ z => z) fun _ _ _ e => e⟩
  empt := r.empt
  disj := r.disj
  zs := fun a z => z.elim (r.zs a) fun q => (ht a q).1
  ss := r.ss
  nz := fun a z => ⟨fun q => q.elim (r.nz a z).1 fun q => (ht a q).2.2 z, (r.nz a z).2⟩
theorem Tm.out {Z S : AS} {H : Hp} {FS : Nat → AS} {ks : List Bool} {ds : List D} {vs : List V} {B : Nat → AS} (a : ArgR G Z S H FS ks ds vs B) (x : Addr) (t : Tm ks B x) : (∃ o, H x = some o) ∧ ¬ Z x ∧ ¬ S x ∧ ¬ Own FS x := by
  obtain ⟨j, hk, hb⟩ := t
  have hj : j < ks.length := (List.getElem?_eq_some_iff.mp hk).1
  have hd : j < ds.length := by rw [← a.l2]; exact hj
  have hv : j < vs.length := by rw [← a.l1]; exact hd
  have q := a.rep j ds[j] vs[j] false (by simp [hd]) (by simp [hv]) hk
  rw [if_neg Bool.false_ne_true] at q
  exact ⟨q.1.own x hb, q.2 x hb⟩
theorem sz1000 {n : Nat} (h : n ≤ 1000) : n ≤ sizeLine := Nat.le_trans h (by decide)
/-- (a, b, ..) -/
theorem rd_tup {ks : List Bool} {qt : Bool} {fa : DS → Option EA} {tr : TA} (ha : ∀ σ H Q, rdA G W ks qt fa σ H Q → tr σ H Q) : ∀ σ H Q, rdE G W false qt (evTup ks fa) σ H Q → tTup tr σ H Q := by
  rintro σ H Q ⟨δ, Z, S, FS, sr, ⟨w, hf⟩, ok, ex⟩
  unfold evTup at hf ok ex
  refine ha σ H _ ⟨δ, Z, S, FS, sr, ?_, fun ds δ' h vs H' Z' FS' B p => ?_, fun x δ' h => ?_⟩
  · cases q : fa δ with
    | none => rw [q] at hf; cases hf
    | some w => exact ⟨w, rfl⟩
  · rw [h] at hf ok
    simp only at hf ok
    by_cases hc : (capOk ks ds && decide (ds.length ≤ 1000)) = true
    · rw [if_pos hc] at ok
      rw [Bool.and_eq_true, decide_eq_true_eq] at hc
      refine ⟨by rw [← p.ar.l1]; exact sz1000 hc.2, fun a hn => ?_⟩
      have cs := caps p.ar hc.1
      have tm := fun x t => Tm.out p.ar x t
      refine ok _ δ' rfl (.ref a) _ (fun x => (Z' x ∨ Tm ks B x) ∨ x = a) FS' S0 ⟨?_, ?_, ?_, fun q => ?_⟩
      · exact (p.sr.more fun x t => ⟨(tm x t).1, (tm x t).2.2⟩).grow (same_upd hn) (fun _ z => .inl z) fun x z => z.imp id fun q => by subst q; exact ⟨hn, _, upd_same⟩
      · refine (p.st.trans ⟨fun x o e _ => same_upd hn x o e, fun x o e => ⟨o, same_upd hn x o e⟩, fun x z => .inl (.inl z), fun x z => ?_, fun x z => .inl ?_⟩)
        · rcases z with (z | z) | z
          · exact .inl z
          · exact .inr (.inl (.inr z))
          · subst z; exact .inr (.inr hn)
        · exact z.elim .inl fun q => q.elim
      · rw [if_neg Bool.false_ne_true]
        refine ⟨.fz (.tup (.inl ⟨.inr rfl, .inl upd_same⟩) (by rw [List.length_map]; exact p.ar.l1) fun j d v e1 e2 => (cs j d v e1 e2).mono (fun _ z => .inl z) fun x _ o e => same_upd hn x o e) fun _ z => z, fun x z => z.elim⟩
      · obtain ⟨b, c⟩ := p.qq q
        exact ⟨b, c.trans (same_upd hn)⟩
    · rw [if_neg hc] at hf; cases hf
  · rw [h] at ex
    exact ex x δ' rfl
/-- [a, b, ..]: its items frozen -/
theorem rd_lst {ks : List Bool} {qt : Bool} {fa : DS → Option EA} {tr : TA} (ha : ∀ σ H Q, rdA G W ks qt fa σ H Q → tr σ H Q) : ∀ σ H Q, rdE G W false qt (evLst ks fa) σ H Q → tLst tr σ H Q := by
  rintro σ H Q ⟨δ, Z, S, FS, sr, ⟨w, hf⟩, ok, ex⟩
  unfold evLst at hf ok ex
  refine ha σ H _ ⟨δ, Z, S, FS, sr, ?_, fun ds δ' h vs H' Z' FS' B p => ?_, fun x δ' h => ?_⟩
  · cases q : fa δ with
    | none => rw [q] at hf; cases hf
    | some w => exact ⟨w, rfl⟩
  · rw [h] at hf ok
    simp only at hf ok
    by_cases hc : (capOk ks ds && decide (ds.length ≤ 1000)) = true
    · rw [if_pos hc] at ok
      rw [Bool.and_eq_true, decide_eq_true_eq] at hc
      refine ⟨by rw [← p.ar.l1]; exact sz1000 hc.2, fun a hn => ?_⟩
      have cs := caps p.ar hc.1
      have tm := fun x t => Tm.out p.ar x t
      refine ok _ δ' rfl (.ref a) _ (fun x => Z' x ∨ Tm ks B x) FS' (fun x => x = a) ⟨?_, ?_, ?_, fun q => ?_⟩
      · exact (p.sr.more fun x t => ⟨(tm x t).1, (tm x t).2.2⟩).same (same_upd hn)
      · refine (p.st.trans ⟨fun x o e _ => same_upd hn x o e, fun x o e => ⟨o, same_upd hn x o e⟩, fun x z => .inl z, fun x z => ?_, fun x z => ?_⟩)
        · rcases z with z | z
          · exact .inl z
          · exact .inr (.inl (.inr z))
        · rcases z with z | z
          · exact .inl (.inl z)
          · subst z; exact .inr hn
      · rw [if_neg Bool.false_ne_true]
        refine ⟨.lo upd_same (by rw [List.length_map]; exact p.ar.l1) (fun j d v e1 e2 => (cs j d v e1 e2).same (same_upd hn)) fun _ => Iff.rfl, fun x z => ?_⟩
        subst z
        refine ⟨fun q => ?_, fun q => ?_, fun q => ?_⟩
        · rcases q with q | q
          · obtain ⟨o, e⟩ := p.sr.zs x q; rw [hn] at e; cases e
          · obtain ⟨o, e⟩ := (tm x q).1; rw [hn] at e; cases e
        · obtain ⟨o, e⟩ := p.sr.ss x q; rw [hn] at e; cases e
        · obtain ⟨o, e⟩ := p.sr.own x q; rw [hn] at e; cases e
      · obtain ⟨b, c⟩ := p.qq q
        exact ⟨b, c.trans (same_upd hn)⟩
    · rw [if_neg hc] at hf; cases hf
  · rw [h] at ex
    exact ex x δ' rfl

/-! ### tests and ways -/
abbrev EB := RR Bool × DS
structure PostB (G : GC) (S : Nat → AS) (qt : Bool) (σ : St) (H : Hp) (Z : AS) (FS : Nat → AS) (δ' : DS) (H' : Hp) (Z' : AS) (FS' : Nat → AS) : Prop where
  sr : SR G Z' S H' δ' σ FS'
  st : Step H Z (Own FS) H' Z' (Own FS')
  qq : qt = true → FS' = FS ∧ Same H H'
def rdT (G : GC) (W : WX) (qt : Bool) (f : DS → Option EB) : TT := fun σ H Q => ∃ δ Z S FS, SR G Z S H δ σ FS ∧ (∃ r, f δ = some r) ∧
  (∀ b δ', f δ = some (.ok b, δ') → ∀ H' Z' FS', PostB G S qt σ H Z FS δ' H' Z' FS' → Q b H') ∧
  (∀ x δ', f δ = some (.ex x, δ') → ∀ c dd H' Z' FS', PostX G S σ H Z FS x δ' c dd H' Z' FS' → W c dd σ H')
/-- what an expression leaves, its value dropped -/
theorem PostE.b {S : Nat → AS} {vw qt : Bool} {σ : St} {H : Hp} {Z : AS} {FS : Nat → AS} {d : D} {δ' : DS} {v : V} {H' : Hp} {Z' : AS} {FS' : Nat → AS} {A : AS} (p : PostE G S vw qt σ H Z FS d δ' v H' Z' FS' A) : PostB G S qt σ H Z FS δ' H' Z' FS' :=
  ⟨p.sr, p.st.sub fun _ z => .inl z, p.qq⟩
theorem PostE.rep {S : Nat → AS} {vw qt : Bool} {σ : St} {H : Hp} {Z : AS} {FS : Nat → AS} {d : D} {δ' : DS} {v : V} {H' : Hp} {Z' : AS} {FS' : Nat → AS} {A : AS} (p : PostE G S vw qt σ H Z FS d δ' v H' Z' FS' A) : Rep G Z' (Own S) H' d v A := by
  have q := p.vl
  split at q
  · exact q.1
  · exact q.1.s0
/-- b, then more -/
theorem PostB.thenB {S : Nat → AS} {q1 q2 : Bool} {σ : St} {H H1 H2 : Hp} {Z Z1 Z2 : AS} {FS FS1 FS2 : Nat → AS} {δ1 δ2 : DS} (a : PostB G S q1 σ H Z FS δ1 H1 Z1 FS1) (b : PostB G S q2 σ H1 Z1 FS1 δ2 H2 Z2 FS2) : PostB G S (q1 && q2) σ H Z FS δ2 H2 Z2 FS2 :=
  ⟨b.sr, a.st.trans b.st, fun h => by
    obtain ⟨h1, h2⟩ := Bool.and_eq_true_iff.mp h
    obtain ⟨a2, a3⟩ := a.qq h1
    obtain ⟨b2, b3⟩ := b.qq h2
    exact ⟨b2.trans a2, a3.trans b3⟩⟩
theorem PostB.thenE {S : Nat → AS} {q1 q2 vw : Bool} {σ : St} {H H1 H2 : Hp} {Z Z1 Z2 : AS} {FS FS1 FS2 : Nat → AS} {δ1 δ2 : DS} {d : D} {v : V} {A : AS} (a : PostB G S q1 σ H Z FS δ1 H1 Z1 FS1) (b : PostE G S vw q2 σ H1 Z1 FS1 d δ2 v H2 Z2 FS2 A) : PostE G S vw (q1 && q2) σ H Z FS d δ2 v H2 Z2 FS2 A :=
  ⟨b.sr, a.st.trans b.st, b.vl, fun h => by
    obtain ⟨h1, h2⟩ := Bool.and_eq_true_iff.mp h
    obtain ⟨a2, a3⟩ := a.qq h1
    obtain ⟨b2, b3⟩ := b.qq h2
    exact ⟨b2.trans a2, a3.trans b3⟩⟩
theorem PostB.thenX {S : Nat → AS} {q1 : Bool} {σ : St} {H H1 H2 : Hp} {Z Z1 Z2 : AS} {FS FS1 FS2 : Nat → AS} {δ1 δ2 : DS} {x : Xc} {c : Value} {dd : Option Addr} (a : PostB G S q1 σ H Z FS δ1 H1 Z1 FS1) (b : PostX G S σ H1 Z1 FS1 x δ2 c dd H2 Z2 FS2) : PostX G S σ H Z FS x δ2 c dd H2 Z2 FS2 :=
  ⟨b.sr, a.st.trans b.st, b.xr⟩
theorem PostB.weak {S : Nat → AS} {q1 q2 : Bool} {σ : St} {H H1 : Hp} {Z Z1 : AS} {FS FS1 : Nat → AS} {δ1 : DS} (a : PostB G S q1 σ H Z FS δ1 H1 Z1 FS1) (h : q2 = true → q1 = true) : PostB G S q2 σ H Z FS δ1 H1 Z1 FS1 := ⟨a.sr, a.st, fun q => a.qq (h q)⟩
theorem PostE.weak {S : Nat → AS} {q1 q2 vw : Bool} {σ : St} {H H1 : Hp} {Z Z1 : AS} {FS FS1 : Nat → AS} {δ1 : DS} {d : D} {v : V} {A : AS} (a : PostE G S vw q1 σ H Z FS d δ1 v H1 Z1 FS1 A) (h : q2 = true → q1 = true) : PostE G S vw q2 σ H Z FS d δ1 v H1 Z1 FS1 A := ⟨a.sr, a.st, a.vl, fun q => a.qq (h q)⟩
theorem PostE.opaque {S : Nat → AS} {q1 vw : Bool} {σ : St} {H H1 : Hp} {Z Z1 : AS} {FS FS1 : Nat → AS} {δ1 : DS} {d : D} {v : V} {A : AS} (a : PostE G S vw q1 σ H Z FS d δ1 v H1 Z1 FS1 A) (h : vw = true → isF d = true) : ∃ A', PostE G S false q1 σ H Z FS d δ1 v H1 Z1 FS1 A' := by
  cases hv : vw with
  | false => subst hv; exact ⟨A, a⟩
  | true =>
    have vl := a.vl
    rw [hv, if_pos rfl] at vl
    obtain ⟨rf, nA⟩ := vl.1.frozen (h hv)
    refine ⟨S0, a.sr, a.st.sub fun x z => z.elim .inl fun q => q.elim, ?_, a.qq⟩
    rw [if_neg Bool.false_ne_true]
    exact ⟨.fz rf fun _ z => z, fun x z => z.elim⟩
end
end PD
/-! P, part 6: tests, ways, chains, methods: the readings. -/
namespace PD
open PySem L2

def truD : D → Option Bool
  | .non => some false
  | .bl b => some b
  | .int i => some (i != 0)
  | .str z => if z.length ≤ sizeLine then some ((z.length : Int) != 0) else none
  | .lst _ xs => some (!xs.isEmpty)
  | .tup xs => some (!xs.isEmpty)
  | .dic _ xs => some (!xs.isEmpty)
  | _ => none
def blD : D → Option Bool
  | .bl b => some b
  | _ => none
def evTr (g : D → Option Bool) (f : DS → Option ER) : DS → Option EB := fun δ => match f δ with
  | none => none
  | some (.ex x, δ') => some (.ex x, δ')
  | some (.ok d, δ') => match g d with
    | none => none
    | some b => some (.ok b, δ')
def evNotT (f : DS → Option EB) : DS → Option EB := fun δ => match f δ with
  | none => none
  | some (.ex x, δ') => some (.ex x, δ')
  | some (.ok b, δ') => some (.ok (!b), δ')
def evAndT (f g : DS → Option EB) : DS → Option EB := fun δ => match f δ with
  | none => none
  | some (.ex x, δ') => some (.ex x, δ')
  | some (.ok b, δ') => if b = true then g δ' else some (.ok false, δ')
def evOrT (f g : DS → Option EB) : DS → Option EB := fun δ => match f δ with
  | none => none
  | some (.ex x, δ') => some (.ex x, δ')
  | some (.ok b, δ') => if b = true then some (.ok true, δ') else g δ'
/-- as values: all but the last are truth values -/
def evAndV (f g : DS → Option ER) : DS → Option ER := fun δ => match f δ with
  | none => none
  | some (.ex x, δ') => some (.ex x, δ')
  | some (.ok d, δ') => match blD d with
    | none => none
    | some b => if b = true then g δ' else some (.ok (.bl false), δ')
def evOrV (f g : DS → Option ER) : DS → Option ER := fun δ => match f δ with
  | none => none
  | some (.ex x, δ') => some (.ex x, δ')
  | some (.ok d, δ') => match blD d with
    | none => none
    | some b => if b = true then some (.ok (.bl true), δ') else g δ'
def evNotV (f : DS → Option ER) : DS → Option ER := fun δ => match f δ with
  | none => none
  | some (.ex x, δ') => some (.ex x, δ')
  | some (.ok d, δ') => match blD d with
    | none => none
    | some b => some (.ok (.bl (!b)), δ')
/-- a value that is to be kept: a view must be frozen -/
def evOpq (vw : Bool) (f : DS → Option ER) : DS → Option ER := fun δ => match f δ with
  | none => none
  | some (.ex x, δ') => some (.ex x, δ')
  | some (.ok d, δ') => if vw && !isF d then none else some (.ok d, δ')
def evIf (t : DS → Option EB) (f g : DS → Option ER) : DS → Option ER := fun δ => match t δ with
  | none => none
  | some (.ex x, δ') => some (.ex x, δ')
  | some (.ok b, δ') => if b = true then f δ' else g δ'
def evGuard (c : D → Bool) (f : DS → Option ER) : DS → Option ER := fun δ => match f δ with
  | none => none
  | some (.ex x, δ') => some (.ex x, δ')
  | some (.ok d, δ') => if c d then some (.ok d, δ') else none

section
variable {G : GC} {W : WX} {X : Cx}
theorem truV_of {Z S : AS} {H : Hp} {d : D} {v : V} {A : AS} {b : Bool} (r : Rep G Z S H d v A) (h : truD d = some b) : TruV G.K v H b := by
  cases d with
  | non => rw [r.nonV]; cases h; rfl
  | bl k => rw [r.blV]; cases h; rfl
  | int i => rw [r.intV]; cases h; rfl
  | str z =>
    rw [r.strV]
    have h' : (if z.length ≤ sizeLine then some ((z.length : Int) != 0) else none) = some b := h
    by_cases hz : z.length ≤ sizeLine
    · rw [if_pos hz] at h'; cases h'; exact ⟨hz, rfl⟩
    · rw [if_neg hz] at h'; cases h'
  | lst m xs =>
    obtain ⟨a, vs, rfl, sq, hl, _⟩ := r.lstV
    cases h
    refine .inl ⟨vs, sq, ?_⟩
    cases xs <;> cases vs <;> first | rfl | simp at hl
  | tup xs =>
    obtain ⟨a, vs, rfl, sq, hl, _⟩ := r.tupV
    cases h
    refine .inr (.inl ⟨vs, sq, ?_⟩)
    cases xs <;> cases vs <;> first | rfl | simp at hl
  | dic m xs =>
    cases h
    have fin : ∀ {a : Addr} {ws : List (Key × V)}, H a = some (.dK ws) → xs.map (·.1) = ws.map (·.1) → TruV G.K (.ref a) H (!xs.isEmpty) := fun {a ws} e hl => by
      refine .inr (.inr ⟨ws, e, ?_⟩)
      cases xs <;> cases ws <;> first | rfl | simp at hl
    cases r with
    | fz h hA => cases h with | dic z h hl he => exact fin h hl
    | dco h hl he hA => exact fin h hl
    | dcoo B h hl he hd hn ho hA => exact fin h hl
    | dcl s h hl he hA => exact fin h hl
    | dcll s h hl he hA => exact fin h hl
  | _ => cases h
theorem some_of {α β : Type} {o : Option α} {f : α → Option β} {b : β} (h : (match o with | none => none | some a => f a) = some b) : ∃ a, o = some a ∧ f a = some b := by
  cases o with
  | none => cases h
  | some a => exact ⟨a, rfl, h⟩
/-- a value's truth as a test -/
theorem rd_tru {vw qt : Bool} {f : DS → Option ER} {te : TE} (ha : ∀ σ H Q, rdE G W vw qt f σ H Q → te σ H Q) : ∀ σ H Q, rdT G W qt (evTr truD f) σ H Q → te σ H fun x H' => ∃ k, TruV G.K x H' k ∧ Q k H' := by
  rintro σ H Q ⟨δ, Z, S, FS, sr, ⟨w, hf⟩, ok, ex⟩
  unfold evTr at hf ok ex
  refine ha σ H _ ⟨δ, Z, S, FS, sr, ?_, fun d δ' h v H' Z' FS' A p => ?_, fun x δ' h => ?_⟩
  · cases q : f δ with
    | none => rw [q] at hf; cases hf
    | some w => exact ⟨w, rfl⟩
  · rw [h] at hf ok
    simp only at hf ok
    cases e : truD d with
    | none => rw [e] at hf; cases hf
    | some b =>
      rw [e] at ok
      exact ⟨b, truV_of p.rep e, ok b δ' rfl H' Z' FS' p.b⟩
  · rw [h] at ex
    exact ex x δ' rfl
theorem rd_trb {vw qt : Bool} {f : DS → Option ER} {te : TE} (ha : ∀ σ H Q, rdE G W vw qt f σ H Q → te σ H Q) : ∀ σ H Q, rdT G W qt (evTr blD f) σ H Q → te σ H fun x H' => ∃ k, x = .bl k ∧ Q k H' := by
  rintro σ H Q ⟨δ, Z, S, FS, sr, ⟨w, hf⟩, ok, ex⟩
  unfold evTr at hf ok ex
  refine ha σ H _ ⟨δ, Z, S, FS, sr, ?_, fun d δ' h v H' Z' FS' A p => ?_, fun x δ' h => ?_⟩
  · cases q : f δ with
    | none => rw [q] at hf; cases hf
    | some w => exact ⟨w, rfl⟩
  · rw [h] at hf ok
    simp only at hf ok
    cases d with
    | bl b => exact ⟨b, p.rep.blV, ok b δ' rfl H' Z' FS' p.b⟩
    | _ => cases hf
  · rw [h] at ex
    exact ex x δ' rfl
theorem rd_notT {qt : Bool} {f : DS → Option EB} {tt : TT} (ha : ∀ σ H Q, rdT G W qt f σ H Q → tt σ H Q) : ∀ σ H Q, rdT G W qt (evNotT f) σ H Q → tNot tt σ H Q := by
  rintro σ H Q ⟨δ, Z, S, FS, sr, ⟨w, hf⟩, ok, ex⟩
  unfold evNotT at hf ok ex
  refine ha σ H _ ⟨δ, Z, S, FS, sr, ?_, fun d δ' h H' Z' FS' p => ?_, fun x δ' h => ?_⟩
  · cases q : f δ with
    | none => rw [q] at hf; cases hf
    | some w => exact ⟨w, rfl⟩
  · rw [h] at ok
    exact ok _ δ' rfl H' Z' FS' p
  · rw [h] at ex
    exact ex x δ' rfl
theorem rd_andT {q1 q2 : Bool} {f g : DS → Option EB} {ta tb : TT} (ha : ∀ σ H Q, rdT G W q1 f σ H Q → ta σ H Q) (hb : ∀ σ H Q, rdT G W q2 g σ H Q → tb σ H Q) : ∀ σ H Q, rdT G W (q1 && q2) (evAndT f g) σ H Q → tAnd ta tb σ H Q := by
  rintro σ H Q ⟨δ, Z, S, FS, sr, ⟨w, hf⟩, ok, ex⟩
  unfold evAndT at hf ok ex
  refine ha σ H _ ⟨δ, Z, S, FS, sr, ?_, fun b δ' h H' Z' FS' p => ?_, fun x δ' h => ?_⟩
  · cases q : f δ with
    | none => rw [q] at hf; cases hf
    | some w => exact ⟨w, rfl⟩
  · rw [h] at hf ok ex
    simp only at hf ok ex
    cases b with
    | true =>
      rw [if_pos rfl]
      rw [if_pos rfl] at hf ok ex
      exact hb σ H' _ ⟨δ', Z', S, FS', p.sr, ⟨w, hf⟩, fun b δ2 h2 H2 Z2 FS2 p2 => ok b δ2 h2 H2 Z2 FS2 (p.thenB p2), fun x δ2 h2 c dd H2 Z2 FS2 p2 => ex x δ2 h2 c dd H2 Z2 FS2 (p.thenX p2)⟩
    | false =>
      rw [if_neg Bool.false_ne_true]
      rw [if_neg Bool.false_ne_true] at ok
      exact ok false δ' rfl H' Z' FS' (p.weak fun h => (Bool.and_eq_true_iff.mp h).1)
  · rw [h] at ex
    exact ex x δ' rfl
theorem rd_orT {q1 q2 : Bool} {f g : DS → Option EB} {ta tb : TT} (ha : ∀ σ H Q, rdT G W q1 f σ H Q → ta σ H Q) (hb : ∀ σ H Q, rdT G W q2 g σ H Q → tb σ H Q) : ∀ σ H Q, rdT G W (q1 && q2) (evOrT f g) σ H Q → tOr ta tb σ H Q := by
  rintro σ H Q ⟨δ, Z, S, FS, sr, ⟨w, hf⟩, ok, ex⟩
  unfold evOrT at hf ok ex
  refine ha σ H _ ⟨δ, Z, S, FS, sr, ?_, fun b δ' h H' Z' FS' p => ?_, fun x δ' h => ?_⟩
  · cases q : f δ with
    | none => rw [q] at hf; cases hf
    | some w => exact ⟨w, rfl⟩
  · rw [h] at hf ok ex
    simp only at hf ok ex
    cases b with
    | false =>
      rw [if_neg Bool.false_ne_true]
      rw [if_neg Bool.false_ne_true] at hf ok ex
      exact hb σ H' _ ⟨δ', Z', S, FS', p.sr, ⟨w, hf⟩, fun b δ2 h2 H2 Z2 FS2 p2 => ok b δ2 h2 H2 Z2 FS2 (p.thenB p2), fun x δ2 h2 c dd H2 Z2 FS2 p2 => ex x δ2 h2 c dd H2 Z2 FS2 (p.thenX p2)⟩
    | true =>
      rw [if_pos rfl]
      rw [if_pos rfl] at ok
      exact ok true δ' rfl H' Z' FS' (p.weak fun h => (Bool.and_eq_true_iff.mp h).1)
  · rw [h] at ex
    exact ex x δ' rfl
/-- a value that is kept -/
theorem rd_opq {vw qt : Bool} {f : DS → Option ER} {te : TE} (ha : ∀ σ H Q, rdE G W vw qt f σ H Q → te σ H Q) : ∀ σ H Q, rdE G W false qt (evOpq vw f) σ H Q → te σ H Q := by
  rintro σ H Q ⟨δ, Z, S, FS, sr, ⟨w, hf⟩, ok, ex⟩
  unfold evOpq at hf ok ex
  refine ha σ H _ ⟨δ, Z, S, FS, sr, ?_, fun d δ' h v H' Z' FS' A p => ?_, fun x δ' h => ?_⟩
  · cases q : f δ with
    | none => rw [q] at hf; cases hf
    | some w => exact ⟨w, rfl⟩
  · rw [h] at hf ok
    simp only at hf ok
    by_cases hc : (vw && !isF d) = true
    · rw [if_pos hc] at hf; cases hf
    · rw [if_neg hc] at ok
      obtain ⟨A', p'⟩ := p.opaque fun hv => by
        cases q : isF d with
        | true => rfl
        | false => exact absurd (by simp [hv, q]) hc
      exact ok d δ' rfl v H' Z' FS' A' p'
  · rw [h] at ex
    exact ex x δ' rfl
theorem rd_if {q1 q2 q3 : Bool} {t : DS → Option EB} {f g : DS → Option ER} {tt : TT} {ta tb : TE} (ht : ∀ σ H Q, rdT G W q1 t σ H Q → tt σ H Q) (ha : ∀ σ H Q, rdE G W false q2 f σ H Q → ta σ H Q) (hb : ∀ σ H Q, rdE G W false q3 g σ H Q → tb σ H Q) :
    ∀ σ H Q, rdE G W false (q1 && q2 && q3) (evIf t f g) σ H Q → tIf tt ta tb σ H Q := by
  rintro σ H Q ⟨δ, Z, S, FS, sr, ⟨w, hf⟩, ok, ex⟩
  unfold evIf at hf ok ex
  refine ht σ H _ ⟨δ, Z, S, FS, sr, ?_, fun b δ' h H' Z' FS' p => ?_, fun x δ' h => ?_⟩
  · cases q : t δ with
    | none => rw [q] at hf; cases hf
    | some w => exact ⟨w, rfl⟩
  · rw [h] at hf ok ex
    simp only at hf ok ex
    cases b with
    | true =>
      rw [if_pos rfl]
      rw [if_pos rfl] at hf ok ex
      exact ha σ H' _ ⟨δ', Z', S, FS', p.sr, ⟨w, hf⟩, fun d δ2 h2 v H2 Z2 FS2 A p2 => ok d δ2 h2 v H2 Z2 FS2 A ((p.thenE p2).weak fun h => by simp only [Bool.and_eq_true] at h ⊢; exact ⟨h.1.1, h.1.2⟩), fun x δ2 h2 c dd H2 Z2 FS2 p2 => ex x δ2 h2 c dd H2 Z2 FS2 (p.thenX p2)⟩
    | false =>
      rw [if_neg Bool.false_ne_true]
      rw [if_neg Bool.false_ne_true] at hf ok ex
      exact hb σ H' _ ⟨δ', Z', S, FS', p.sr, ⟨w, hf⟩, fun d δ2 h2 v H2 Z2 FS2 A p2 => ok d δ2 h2 v H2 Z2 FS2 A ((p.thenE p2).weak fun h => by simp only [Bool.and_eq_true] at h ⊢; exact ⟨h.1.1, h.2⟩), fun x δ2 h2 c dd H2 Z2 FS2 p2 => ex x δ2 h2 c dd H2 Z2 FS2 (p.thenX p2)⟩
  · rw [h] at ex
    exact ex x δ' rfl
theorem rep_bl (Z : AS) (H : Hp) (b : Bool) : Rep G Z S0 H (.bl b) (.bl b) S0 := .fz (.bl b) fun _ z => z
theorem PostB.bl {S : Nat → AS} {q : Bool} {σ : St} {H H1 : Hp} {Z Z1 : AS} {FS FS1 : Nat → AS} {δ1 : DS} (a : PostB G S q σ H Z FS δ1 H1 Z1 FS1) (b : Bool) : PostE G S false q σ H Z FS (.bl b) δ1 (.bl b) H1 Z1 FS1 S0 := by
  refine ⟨a.sr, a.st.sub fun x z => z.elim id fun q => q.elim, ?_, a.qq⟩
  rw [if_neg Bool.false_ne_true]
  exact ⟨rep_bl _ _ b, fun x z => z.elim⟩
theorem rd_andV {v1 q1 q2 : Bool} {f g : DS → Option ER} {ta tb : TE} (ha : ∀ σ H Q, rdE G W v1 q1 f σ H Q → ta σ H Q) (hb : ∀ σ H Q, rdE G W false q2 g σ H Q → tb σ H Q) : ∀ σ H Q, rdE G W false (q1 && q2) (evAndV f g) σ H Q → tAndV ta tb σ H Q := by
  rintro σ H Q ⟨δ, Z, S, FS, sr, ⟨w, hf⟩, ok, ex⟩
  unfold evAndV at hf ok ex
  refine ha σ H _ ⟨δ, Z, S, FS, sr, ?_, fun d δ' h v H' Z' FS' A p => ?_, fun x δ' h => ?_⟩
  · cases q : f δ with
    | none => rw [q] at hf; cases hf
    | some w => exact ⟨w, rfl⟩
  · rw [h] at hf ok ex
    simp only at hf ok ex
    cases d with
    | bl b =>
      refine ⟨b, p.rep.blV, ?_⟩
      simp only [blD] at hf ok ex
      cases b with
      | true =>
        rw [if_pos rfl]
        rw [if_pos rfl] at hf ok ex
        exact hb σ H' _ ⟨δ', Z', S, FS', p.sr, ⟨w, hf⟩, fun d δ2 h2 v H2 Z2 FS2 A p2 => ok d δ2 h2 v H2 Z2 FS2 A (p.b.thenE p2), fun x δ2 h2 c dd H2 Z2 FS2 p2 => ex x δ2 h2 c dd H2 Z2 FS2 (p.b.thenX p2)⟩
      | false =>
        rw [if_neg Bool.false_ne_true]
        rw [if_neg Bool.false_ne_true] at ok
        exact ok _ δ' rfl _ H' Z' FS' _ ((p.b.bl false).weak fun h => (Bool.and_eq_true_iff.mp h).1)
    | _ => cases hf
  · rw [h] at ex
    exact ex x δ' rfl
theorem rd_orV {v1 q1 q2 : Bool} {f g : DS → Option ER} {ta tb : TE} (ha : ∀ σ H Q, rdE G W v1 q1 f σ H Q → ta σ H Q) (hb : ∀ σ H Q, rdE G W false q2 g σ H Q → tb σ H Q) : ∀ σ H Q, rdE G W false (q1 && q2) (evOrV f g) σ H Q → tOrV ta tb σ H Q := by
  rintro σ H Q ⟨δ, Z, S, FS, sr, ⟨w, hf⟩, ok, ex⟩
  unfold evOrV at hf ok ex
  refine ha σ H _ ⟨δ, Z, S, FS, sr, ?_, fun d δ' h v H' Z' FS' A p => ?_, fun x δ' h => ?_⟩
  · cases q : f δ with
    | none => rw [q] at hf; cases hf
    | some w => exact ⟨w, rfl⟩
  · rw [h] at hf ok ex
    simp only at hf ok ex
    cases d with
    | bl b =>
      refine ⟨b, p.rep.blV, ?_⟩
      simp only [blD] at hf ok ex
      cases b with
      | false =>
        rw [if_neg Bool.false_ne_true]
        rw [if_neg Bool.false_ne_true] at hf ok ex
        exact hb σ H' _ ⟨δ', Z', S, FS', p.sr, ⟨w, hf⟩, fun d δ2 h2 v H2 Z2 FS2 A p2 => ok d δ2 h2 v H2 Z2 FS2 A (p.b.thenE p2), fun x δ2 h2 c dd H2 Z2 FS2 p2 => ex x δ2 h2 c dd H2 Z2 FS2 (p.b.thenX p2)⟩
      | true =>
        rw [if_pos rfl]
        rw [if_pos rfl] at ok
        exact ok _ δ' rfl _ H' Z' FS' _ ((p.b.bl true).weak fun h => (Bool.and_eq_true_iff.mp h).1)
    | _ => cases hf
  · rw [h] at ex
    exact ex x δ' rfl
theorem rd_notV {v1 q1 : Bool} {f : DS → Option ER} {ta : TE} (ha : ∀ σ H Q, rdE G W v1 q1 f σ H Q → ta σ H Q) : ∀ σ H Q, rdE G W false q1 (evNotV f) σ H Q → tNotV ta σ H Q := by
  rintro σ H Q ⟨δ, Z, S, FS, sr, ⟨w, hf⟩, ok, ex⟩
  unfold evNotV at hf ok ex
  refine ha σ H _ ⟨δ, Z, S, FS, sr, ?_, fun d δ' h v H' Z' FS' A p => ?_, fun x δ' h => ?_⟩
  · cases q : f δ with
    | none => rw [q] at hf; cases hf
    | some w => exact ⟨w, rfl⟩
  · rw [h] at hf ok
    simp only at hf ok
    cases d with
    | bl b => exact ⟨b, p.rep.blV, ok _ δ' rfl _ H' Z' FS' _ (p.b.bl (!b))⟩
    | _ => cases hf
  · rw [h] at ex
    exact ex x δ' rfl
/-- a value with a fact of it -/
theorem rd_guard {vw qt : Bool} {c : D → Bool} {P : V → Hp → Prop} {f : DS → Option ER} {te : TE} (hP : ∀ Z S H d v A, Rep G Z S H d v A → c d = true → P v H) (ha : ∀ σ H Q, rdE G W vw qt f σ H Q → te σ H Q) :
    ∀ σ H Q, rdE G W vw qt (evGuard c f) σ H Q → te σ H fun x H1 => P x H1 ∧ Q x H1 := by
  rintro σ H Q ⟨δ, Z, S, FS, sr, ⟨w, hf⟩, ok, ex⟩
  unfold evGuard at hf ok ex
  refine ha σ H _ ⟨δ, Z, S, FS, sr, ?_, fun d δ' h v H' Z' FS' A p => ?_, fun x δ' h => ?_⟩
  · cases q : f δ with
    | none => rw [q] at hf; cases hf
    | some w => exact ⟨w, rfl⟩
  · rw [h] at hf ok
    simp only at hf ok
    by_cases hc : c d = true
    · rw [if_pos hc] at ok
      exact ⟨hP Z' (Own S) H' d v A p.rep hc, ok d δ' rfl v H' Z' FS' A p⟩
    · rw [if_neg hc] at hf; cases hf
  · rw [h] at ex
    exact ex x δ' rfl
end
end PD
/-! P, part 7: statements. -/
namespace PD
open PySem L2

inductive Out where
  | nx | bk | ct
  | rt (d : D)
  | ex (x : Xc)
abbrev ES := Out × DS

/-- the slots of pn hold what they held -/
def Pin (pn : List Nat) (σ σ' : St) : Prop := σ'.length = σ.length ∧ ∀ i ∈ pn, σ'[i]? = σ[i]?
theorem Pin.refl (pn : List Nat) (σ : St) : Pin pn σ σ := ⟨rfl, fun _ _ => rfl⟩
theorem Pin.trans {pn : List Nat} {a b c : St} (h : Pin pn a b) (k : Pin pn b c) : Pin pn a c := ⟨k.1.trans h.1, fun i m => (k.2 i m).trans (h.2 i m)⟩
structure PostS (G : GC) (S : Nat → AS) (pn : List Nat) (σ : St) (H : Hp) (Z : AS) (FS : Nat → AS) (δ' : DS) (σ' : St) (H' : Hp) (Z' : AS) (FS' : Nat → AS) : Prop where
  sr : SR G Z' S H' δ' σ' FS'
  st : Step H Z (Own FS) H' Z' (Own FS')
  pn : Pin pn σ σ'
structure PostR (G : GC) (S : Nat → AS) (pn : List Nat) (σ : St) (H : Hp) (Z : AS) (FS : Nat → AS) (d : D) (δ' : DS) (v : V) (σ' : St) (H' : Hp) (Z' : AS) (FS' : Nat → AS) (A : AS) : Prop where
  sr : SR G Z' S H' δ' σ' FS'
  st : Step H Z (Own FS) H' Z' (fun x => Own FS' x ∨ A x)
  vl : Rep G Z' S0 H' d v A ∧ ∀ x, A x → ¬ Z' x ∧ ¬ Own S x ∧ ¬ Own FS' x
  pn : Pin pn σ σ'
structure PostQ (G : GC) (S : Nat → AS) (pn : List Nat) (σ : St) (H : Hp) (Z : AS) (FS : Nat → AS) (x : Xc) (δ' : DS) (c : Value) (dd : Option Addr) (σ' : St) (H' : Hp) (Z' : AS) (FS' : Nat → AS) : Prop where
  sr : SR G Z' S H' δ' σ' FS'
  st : Step H Z (Own FS) H' Z' (Own FS')
  xr : XR G Z' H' x c dd
  pn : Pin pn σ σ'
/-- what is wanted behind a statement, by its outcome -/
structure WantS (G : GC) (W : WX) (S : Nat → AS) (pn : List Nat) (D : Ends) (σ : St) (H : Hp) (Z : AS) (FS : Nat → AS) (r : ES) : Prop where
  nx : ∀ δ', r = (.nx, δ') → ∀ σ' H' Z' FS', PostS G S pn σ H Z FS δ' σ' H' Z' FS' → D.nx σ' H'
  bk : ∀ δ', r = (.bk, δ') → ∀ σ' H' Z' FS', PostS G S pn σ H Z FS δ' σ' H' Z' FS' → D.bk σ' H'
  ct : ∀ δ', r = (.ct, δ') → ∀ σ' H' Z' FS', PostS G S pn σ H Z FS δ' σ' H' Z' FS' → D.ct σ' H'
  rt : ∀ d δ', r = (.rt d, δ') → ∀ v σ' H' Z' FS' A, PostR G S pn σ H Z FS d δ' v σ' H' Z' FS' A → D.rt v H'
  ex : ∀ x δ', r = (.ex x, δ') → ∀ c dd σ' H' Z' FS', PostQ G S pn σ H Z FS x δ' c dd σ' H' Z' FS' → W c dd σ' H'
def rdS (G : GC) (W : WX) (n : Nat) (pn : List Nat) (f : DS → Option ES) : TS := fun D σ H => σ.length = n ∧ ∃ δ Z S FS, SR G Z S H δ σ FS ∧ ∃ r, f δ = some r ∧ WantS G W S pn D σ H Z FS r

def evNx : DS → Option ES := fun δ => some (.nx, δ)
def evSeq (f g : DS → Option ES) : DS → Option ES := fun δ => match f δ with
  | some (.nx, δ') => g δ'
  | r => r
def evDrop (f : DS → Option ER) : DS → Option ES := fun δ => match f δ with
  | none => none
  | some (.ex x, δ') => some (.ex x, δ')
  | some (.ok _, δ') => some (.nx, δ')
def evRet (f : DS → Option ER) : DS → Option ES := fun δ => match f δ with
  | none => none
  | some (.ex x, δ') => some (.ex x, δ')
  | some (.ok d, δ') => some (.rt d, δ')
def evAsg (i : Nat) (f : DS → Option ER) : DS → Option ES := fun δ => match f δ with
  | none => none
  | some (.ex x, δ') => some (.ex x, δ')
  | some (.ok d, δ') => some (.nx, δ'.set i (some d))
def evIfS (t : DS → Option EB) (f g : DS → Option ES) : DS → Option ES := fun δ => match t δ with
  | none => none
  | some (.ex x, δ') => some (.ex x, δ')
  | some (.ok b, δ') => if b = true then f δ' else g δ'
def evRetN : DS → Option ES := fun δ => some (.rt .non, δ)
def evBrk : DS → Option ES := fun δ => some (.bk, δ)
def evCnt : DS → Option ES := fun δ => some (.ct, δ)

section
variable {G : GC} {W : WX} {X : Cx} {n : Nat} {pn : List Nat}
theorem PostS.refl {S : Nat → AS} {σ : St} {H : Hp} {Z : AS} {FS : Nat → AS} {δ : DS} (r : SR G Z S H δ σ FS) : PostS G S pn σ H Z FS δ σ H Z FS := ⟨r, Step.refl _ _ _, Pin.refl _ _⟩
theorem PostS.thenS {S : Nat → AS} {σ σ1 σ2 : St} {H H1 H2 : Hp} {Z Z1 Z2 : AS} {FS FS1 FS2 : Nat → AS} {δ1 δ2 : DS} (a : PostS G S pn σ H Z FS δ1 σ1 H1 Z1 FS1) (b : PostS G S pn σ1 H1 Z1 FS1 δ2 σ2 H2 Z2 FS2) : PostS G S pn σ H Z FS δ2 σ2 H2 Z2 FS2 := ⟨b.sr, a.st.trans b.st, a.pn.trans b.pn⟩
theorem PostS.thenR {S : Nat → AS} {σ σ1 σ2 : St} {H H1 H2 : Hp} {Z Z1 Z2 : AS} {FS FS1 FS2 : Nat → AS} {δ1 δ2 : DS} {d : D} {v : V} {A : AS} (a : PostS G S pn σ H Z FS δ1 σ1 H1 Z1 FS1) (b : PostR G S pn σ1 H1 Z1 FS1 d δ2 v σ2 H2 Z2 FS2 A) : PostR G S pn σ H Z FS d δ2 v σ2 H2 Z2 FS2 A := ⟨b.sr, a.st.trans b.st, b.vl, a.pn.trans b.pn⟩
theorem PostS.thenQ {S : Nat → AS} {σ σ1 σ2 : St} {H H1 H2 : Hp} {Z Z1 Z2 : AS} {FS FS1 FS2 : Nat → AS} {δ1 δ2 : DS} {x : Xc} {c : Value} {dd : Option Addr} (a : PostS G S pn σ H Z FS δ1 σ1 H1 Z1 FS1) (b : PostQ G S pn σ1 H1 Z1 FS1 x δ2 c dd σ2 H2 Z2 FS2) : PostQ G S pn σ H Z FS x δ2 c dd σ2 H2 Z2 FS2 := ⟨b.sr, a.st.trans b.st, b.xr, a.pn.trans b.pn⟩
/-- the wants of what follows, seen from ahead -/
theorem WantS.back {S : Nat → AS} {D : Ends} {σ σ1 : St} {H H1 : Hp} {Z Z1 : AS} {FS FS1 : Nat → AS} {δ1 : DS} {r : ES} (w : WantS G W S pn D σ H Z FS r) (a : PostS G S pn σ H Z FS δ1 σ1 H1 Z1 FS1) : WantS G W S pn D σ1 H1 Z1 FS1 r :=
  ⟨fun δ' e σ' H' Z' FS' p => w.nx δ' e σ' H' Z' FS' (a.thenS p), fun δ' e σ' H' Z' FS' p => w.bk δ' e σ' H' Z' FS' (a.thenS p), fun δ' e σ' H' Z' FS' p => w.ct δ' e σ' H' Z' FS' (a.thenS p),
    fun d δ' e v σ' H' Z' FS' A p => w.rt d δ' e v σ' H' Z' FS' A (a.thenR p), fun x δ' e c dd σ' H' Z' FS' p => w.ex x δ' e c dd σ' H' Z' FS' (a.thenQ p)⟩
theorem PostB.s {S : Nat → AS} {q : Bool} {σ : St} {H H' : Hp} {Z Z' : AS} {FS FS' : Nat → AS} {δ' : DS} (p : PostB G S q σ H Z FS δ' H' Z' FS') : PostS G S pn σ H Z FS δ' σ H' Z' FS' := ⟨p.sr, p.st, Pin.refl _ _⟩
theorem PostX.q {S : Nat → AS} {σ : St} {H H' : Hp} {Z Z' : AS} {FS FS' : Nat → AS} {δ' : DS} {x : Xc} {c : Value} {dd : Option Addr} (p : PostX G S σ H Z FS x δ' c dd H' Z' FS') : PostQ G S pn σ H Z FS x δ' c dd σ H' Z' FS' := ⟨p.sr, p.st, p.xr, Pin.refl _ _⟩
theorem rd_nx : ∀ D σ H, rdS G W n pn evNx D σ H → tNext D σ H := by
  rintro D σ H ⟨hn, δ, Z, S, FS, sr, r, hr, w⟩
  cases hr
  exact w.nx δ rfl σ H Z FS (.refl sr)
theorem rd_seq {f g : DS → Option ES} {t u : TS} (ht : ∀ D σ H, rdS G W n pn f D σ H → t D σ H) (hu : ∀ D σ H, rdS G W n pn g D σ H → u D σ H) : ∀ D σ H, rdS G W n pn (evSeq f g) D σ H → tSeq t u D σ H := by
  rintro D σ H ⟨hn, δ, Z, S, FS, sr, r, hr, w⟩
  unfold evSeq at hr
  cases e : f δ with
  | none => rw [e] at hr; cases hr
  | some q =>
    obtain ⟨o, δ1⟩ := q
    rw [e] at hr
    refine ht { D with nx := u D } σ H ⟨hn, δ, Z, S, FS, sr, (o, δ1), e, ?_⟩
    cases o with
    | nx =>
      refine ⟨fun δ' e' σ' H' Z' FS' p => ?_, fun _ e' => (by cases e'), fun _ e' => (by cases e'), fun _ _ e' => (by cases e'), fun _ _ e' => (by cases e')⟩
      cases e'
      exact hu D σ' H' ⟨p.pn.1.trans hn, _, Z', S, FS', p.sr, r, hr, w.back p⟩
    | bk => cases hr; exact ⟨fun _ e' => (by cases e'), w.bk, w.ct, w.rt, w.ex⟩
    | ct => cases hr; exact ⟨fun _ e' => (by cases e'), w.bk, w.ct, w.rt, w.ex⟩
    | rt d => cases hr; exact ⟨fun _ e' => (by cases e'), w.bk, w.ct, w.rt, w.ex⟩
    | ex x => cases hr; exact ⟨fun _ e' => (by cases e'), w.bk, w.ct, w.rt, w.ex⟩
theorem rd_drop {vw qt : Bool} {f : DS → Option ER} {te : TE} (ha : ∀ σ H Q, rdE G W vw qt f σ H Q → te σ H Q) : ∀ D σ H, rdS G W n pn (evDrop f) D σ H → tDrop te D σ H := by
  rintro D σ H ⟨hn, δ, Z, S, FS, sr, r, hr, w⟩
  unfold evDrop at hr
  refine ha σ H _ ⟨δ, Z, S, FS, sr, ?_, fun d δ' h v H' Z' FS' A p => ?_, fun x δ' h c dd H' Z' FS' p => ?_⟩
  · cases q : f δ with
    | none => rw [q] at hr; cases hr
    | some w => exact ⟨w, rfl⟩
  · rw [h] at hr; cases hr
    exact w.nx _ rfl σ H' Z' FS' p.b.s
  · rw [h] at hr; cases hr
    exact w.ex x _ rfl c dd σ H' Z' FS' p.q
theorem rd_ret {qt : Bool} {f : DS → Option ER} {te : TE} (ha : ∀ σ H Q, rdE G W false qt f σ H Q → te σ H Q) : ∀ D σ H, rdS G W n pn (evRet f) D σ H → tRet te D σ H := by
  rintro D σ H ⟨hn, δ, Z, S, FS, sr, r, hr, w⟩
  unfold evRet at hr
  refine ha σ H _ ⟨δ, Z, S, FS, sr, ?_, fun d δ' h v H' Z' FS' A p => ?_, fun x δ' h c dd H' Z' FS' p => ?_⟩
  · cases q : f δ with
    | none => rw [q] at hr; cases hr
    | some w => exact ⟨w, rfl⟩
  · rw [h] at hr; cases hr
    have vl := p.vl
    rw [if_neg Bool.false_ne_true] at vl
    exact w.rt d _ rfl v σ H' Z' FS' A ⟨p.sr, p.st, vl, Pin.refl _ _⟩
  · rw [h] at hr; cases hr
    exact w.ex x _ rfl c dd σ H' Z' FS' p.q
theorem rd_retN : ∀ D σ H, rdS G W n pn evRetN D σ H → tRetN D σ H := by
  rintro D σ H ⟨hn, δ, Z, S, FS, sr, r, hr, w⟩
  cases hr
  exact w.rt .non _ rfl .non σ H Z FS S0 ⟨sr, Step.quiet fun x h => h.elim, ⟨.fz .non fun _ z => z, fun x z => z.elim⟩, Pin.refl _ _⟩
theorem rd_brk : ∀ D σ H, rdS G W n pn evBrk D σ H → tBreak D σ H := by
  rintro D σ H ⟨hn, δ, Z, S, FS, sr, r, hr, w⟩
  cases hr
  exact w.bk δ rfl σ H Z FS (.refl sr)
theorem rd_cnt : ∀ D σ H, rdS G W n pn evCnt D σ H → tCont D σ H := by
  rintro D σ H ⟨hn, δ, Z, S, FS, sr, r, hr, w⟩
  cases hr
  exact w.ct δ rfl σ H Z FS (.refl sr)
/-- a slot gets a value of its own -/
theorem SR.put {Z : AS} {S : Nat → AS} {H : Hp} {δ : DS} {σ : St} {FS : Nat → AS} {i : Nat} {d : D} {v : V} {A : AS} (r : SR G Z S H δ σ FS) (hi : i < σ.length) (rp : Rep G Z S0 H d v A) (hA : ∀ x, A x → ¬ Z x ∧ ¬ Own S x ∧ ¬ Own FS x) :
    SR G Z S H (δ.set i (some d)) (σ.set i (some v)) (fun j x => (j = i ∧ A x) ∨ (j ≠ i ∧ FS j x)) where
  len := by rw [List.length_set, List.length_set]; exact r.len
  slot := fun j w ew => by
    rcases set_at ew with ⟨hj, ew2⟩ | ⟨hj, ew2⟩
    · cases ew2
      subst hj
      exact ⟨v, by rw [List.getElem?_set_self hi], rp.s0.congr fun x => ⟨fun q => q.elim (fun z => z.2) fun z => (z.1 rfl).elim, fun q => .inl ⟨rfl, q⟩⟩⟩
    · obtain ⟨u, eu, rp'⟩ := r.slot j w ew2
      exact ⟨u, by rw [List.getElem?_set_ne (Ne.symm hj)]; exact eu, rp'.congr fun x => ⟨fun q => q.elim (fun z => (hj z.1).elim) fun z => z.2, fun q => .inr ⟨hj, q⟩⟩⟩
  empt := fun j h x q => by
    have hl : i < δ.length := by rw [r.len]; exact hi
    rcases q with ⟨hj, q⟩ | ⟨hj, q⟩
    · subst hj
      exact h d (by rw [List.getElem?_set_self hl])
    · refine r.empt j (fun w ew => h w ?_) x q
      rw [List.getElem?_set_ne (Ne.symm hj)]; exact ew
  disj := fun j k x a b => by
    rcases a with ⟨hj, a⟩ | ⟨hj, a⟩ <;> rcases b with ⟨hk, b⟩ | ⟨hk, b⟩
    · rw [hj, hk]
    · exact ((hA x a).2.2 ⟨k, b⟩).elim
    · exact ((hA x b).2.2 ⟨j, a⟩).elim
    · exact r.disj j k x a b
  zs := r.zs
  ss := r.ss
  nz := fun x ⟨j, q⟩ => by
    rcases q with ⟨_, q⟩ | ⟨_, q⟩
    · exact ⟨(hA x q).1, (hA x q).2.1⟩
    · exact r.nz x ⟨j, q⟩
theorem own_put {FS : Nat → AS} {i : Nat} {A : AS} : ∀ x, Own (fun j x => (j = i ∧ A x) ∨ (j ≠ i ∧ FS j x)) x → Own FS x ∨ A x := fun x ⟨j, q⟩ => q.elim (fun z => .inr z.2) fun z => .inl ⟨j, z.2⟩
/-- name = value -/
theorem rd_asg {qt : Bool} {i : Nat} {f : DS → Option ER} {te : TE} (hi : i < n) (hp : i ∉ pn) (ha : ∀ σ H Q, rdE G W false qt f σ H Q → te σ H Q) : ∀ D σ H, rdS G W n pn (evAsg i f) D σ H → tAsg te (gName i) D σ H := by
  rintro D σ H ⟨hn, δ, Z, S, FS, sr, r, hr, w⟩
  unfold evAsg at hr
  refine ha σ H _ ⟨δ, Z, S, FS, sr, ?_, fun d δ' h v H' Z' FS' A p => ?_, fun x δ' h c dd H' Z' FS' p => ?_⟩
  · cases q : f δ with
    | none => rw [q] at hr; cases hr
    | some w => exact ⟨w, rfl⟩
  · rw [h] at hr; cases hr
    have vl := p.vl
    rw [if_neg Bool.false_ne_true] at vl
    refine w.nx _ rfl _ H' Z' _ ⟨p.sr.put (by omega) vl.1 vl.2, p.st.sub own_put, by rw [List.length_set], fun j hj => ?_⟩
    rw [List.getElem?_set_ne]
    rintro rfl
    exact hp hj
  · rw [h] at hr; cases hr
    exact w.ex x _ rfl c dd σ H' Z' FS' p.q
theorem rd_ifS {q1 : Bool} {t : DS → Option EB} {f g : DS → Option ES} {tt : TT} {ta tb : TS} (ht : ∀ σ H Q, rdT G W q1 t σ H Q → tt σ H Q) (ha : ∀ D σ H, rdS G W n pn f D σ H → ta D σ H) (hb : ∀ D σ H, rdS G W n pn g D σ H → tb D σ H) :
    ∀ D σ H, rdS G W n pn (evIfS t f g) D σ H → tIfS tt ta tb D σ H := by
  rintro D σ H ⟨hn, δ, Z, S, FS, sr, r, hr, w⟩
  unfold evIfS at hr
  refine ht σ H _ ⟨δ, Z, S, FS, sr, ?_, fun b δ' h H' Z' FS' p => ?_, fun x δ' h c dd H' Z' FS' p => ?_⟩
  · cases q : t δ with
    | none => rw [q] at hr; cases hr
    | some w => exact ⟨w, rfl⟩
  · rw [h] at hr
    simp only at hr
    cases b with
    | true =>
      rw [if_pos rfl]
      rw [if_pos rfl] at hr
      exact ha D σ H' ⟨hn, δ', Z', S, FS', p.sr, r, hr, w.back p.s⟩
    | false =>
      rw [if_neg Bool.false_ne_true]
      rw [if_neg Bool.false_ne_true] at hr
      exact hb D σ H' ⟨hn, δ', Z', S, FS', p.sr, r, hr, w.back p.s⟩
  · rw [h] at hr; cases hr
    exact w.ex x _ rfl c dd σ H' Z' FS' p.q
end
end PD
/-! P, part 8: loops, targets, lists that change. -/
namespace PD
open PySem L2

/-- what a loop walks: items, by an iterator J, as long as Z0 and T stand -/
structure Src (G : GC) (J : It) (items : List D) (Z0 T : AS) (H0 : Hp) : Prop where
  go : ∀ (Z : AS) H i, (∀ a, Z0 a → Z a) → (∀ a, (Z0 a ∨ T a) → ∀ o, H0 a = some o → H a = some o) → i < items.length → J.go i H
  stop : ∀ (Z : AS) H, (∀ a, Z0 a → Z a) → (∀ a, (Z0 a ∨ T a) → ∀ o, H0 a = some o → H a = some o) → J.stop items.length H
  yld : ∀ (Z : AS) H i x H', (∀ a, Z0 a → Z a) → (∀ a, (Z0 a ∨ T a) → ∀ o, H0 a = some o → H a = some o) → J.yld i H x H' → H' = H ∧ ∀ d, items[i]? = some d → RepF G Z H d x
/-- a target takes a frozen value -/
def TgOk (G : GC) (n : Nat) (pn : List Nat) (tg : D → DS → Option DS) (g : TG) : Prop :=
  ∀ d v Z S H δ σ FS δ', σ.length = n → SR G Z S H δ σ FS → RepF G Z H d v → tg d δ = some δ' → ∀ Q : St → Hp → Prop, (∀ σ' FS', SR G Z S H δ' σ' FS' → (∀ x, Own FS' x → Own FS x) → Pin pn σ σ' → Q σ' H) → g v σ H Q
def tgName (i : Nat) : D → DS → Option DS := fun d δ => some (δ.set i (some d))
/-- a tuple's parts to names -/
def tgNames : List Nat → List D → DS → Option DS
  | [], [], δ => some δ
  | i :: is, d :: ds, δ => tgNames is ds (δ.set i (some d))
  | _, _, _ => none
def tgTup (is : List Nat) : D → DS → Option DS := fun d δ => match d with
  | .tup ds => tgNames is ds δ
  | _ => none
def gNames : List Nat → TGs
  | [] => gNil
  | i :: is => gCons (gName i) (gNames is)
def evForL (tg : D → DS → Option DS) (body : DS → Option ES) : List D → DS → Option ES
  | [], δ => some (.nx, δ)
  | d :: r, δ => match tg d δ with
    | none => none
    | some δ1 => match body δ1 with
      | none => none
      | some (.nx, δ2) => evForL tg body r δ2
      | some (.ct, δ2) => evForL tg body r δ2
      | some (.bk, δ2) => some (.nx, δ2)
      | some (.rt v, δ2) => some (.rt v, δ2)
      | some (.ex x, δ2) => some (.ex x, δ2)
def evWhl (t : DS → Option EB) (body : DS → Option ES) : Nat → DS → Option ES
  | 0, _ => none
  | k + 1, δ => match t δ with
    | none => none
    | some (.ex x, δ1) => some (.ex x, δ1)
    | some (.ok b, δ1) => if b = true then match body δ1 with
        | none => none
        | some (.nx, δ2) => evWhl t body k δ2
        | some (.ct, δ2) => evWhl t body k δ2
        | some (.bk, δ2) => some (.nx, δ2)
        | some (.rt v, δ2) => some (.rt v, δ2)
        | some (.ex x, δ2) => some (.ex x, δ2)
      else some (.nx, δ1)
section
variable {G : GC} {W : WX} {X : Cx} {n : Nat} {pn : List Nat}
theorem tg_name {i : Nat} (hi : i < n) (hp : i ∉ pn) : TgOk G n pn (tgName i) (gName i) := by
  intro d v Z S H δ σ FS δ' hn sr rf e Q q
  cases e
  refine q _ _ (sr.put (by omega) (.fz (A := S0) rf fun _ z => z) fun x z => z.elim) (fun x z => (own_put x z).elim id fun z => z.elim) ⟨by rw [List.length_set], fun j hj => ?_⟩
  rw [List.getElem?_set_ne]
  rintro rfl
  exact hp hj
theorem tg_names : ∀ (is : List Nat), (∀ i ∈ is, i < n ∧ i ∉ pn) → ∀ ds vs Z S H δ σ FS δ', σ.length = n → SR G Z S H δ σ FS → ds.length = vs.length → (∀ (j : Nat) d v, ds[j]? = some d → vs[j]? = some v → RepF G Z H d v) → tgNames is ds δ = some δ' →
    ∀ Q : St → Hp → Prop, (∀ σ' FS', SR G Z S H δ' σ' FS' → (∀ x, Own FS' x → Own FS x) → Pin pn σ σ' → Q σ' H) → gNames is vs σ H Q
  | [], _, [], [], _, _, _, _, _, _, _, _, sr, _, _, e, Q, q => by
    cases e
    exact ⟨rfl, q _ _ sr (fun _ z => z) (Pin.refl _ _)⟩
  | i :: is, h, d :: ds, v :: vs, Z, S, H, δ, σ, FS, δ', hn, sr, hl, hr, e, Q, q => by
    refine ⟨v, vs, rfl, ?_⟩
    have h1 := h i List.mem_cons_self
    refine tg_name h1.1 h1.2 d v Z S H δ σ FS _ hn sr (hr 0 d v rfl rfl) rfl _ fun σ1 FS1 sr1 o1 p1 => ?_
    exact tg_names is (fun j hj => h j (List.mem_cons_of_mem _ hj)) ds vs Z S H _ σ1 FS1 δ' (p1.1.trans hn) sr1 (by simpa using hl) (fun j d v e1 e2 => hr (j + 1) d v (by simpa using e1) (by simpa using e2)) e Q
      fun σ' FS' a b c => q σ' FS' a (fun x z => o1 x (b x z)) (p1.trans c)
  | [], _, _ :: _, _, _, _, _, _, _, _, _, _, _, _, _, e, _, _ => by simp [tgNames] at e
  | _ :: _, _, [], _, _, _, _, _, _, _, _, _, _, _, _, e, _, _ => by simp [tgNames] at e
  | _ :: _, _, _ :: _, [], _, _, _, _, _, _, _, _, _, hl, _, _, _, _ => by simp at hl
  | [], _, [], _ :: _, _, _, _, _, _, _, _, _, _, hl, _, _, _, _ => by simp at hl
theorem tg_tup {is : List Nat} (h : ∀ i ∈ is, i < n ∧ i ∉ pn) : TgOk G n pn (tgTup is) (gTup G.K is.length (gNames is)) := by
  intro d v Z S H δ σ FS δ' hn sr rf e Q q
  cases d with
  | tup ds =>
    cases rf with
    | tup hs hl he =>
      rename_i a vs
      have len : ∀ (is : List Nat) (ds : List D) (δ δ' : DS), tgNames is ds δ = some δ' → is.length = ds.length := by
        intro is
        induction is with
        | nil => intro ds δ δ' e; cases ds with
          | nil => rfl
          | cons _ _ => simp [tgNames] at e
        | cons i is ih => intro ds δ δ' e; cases ds with
          | nil => simp [tgNames] at e
          | cons d ds => simp only [List.length_cons]; rw [ih ds _ _ e]
      refine ⟨a, vs, rfl, hs.imp (fun z => z.2) id, by rw [← hl, len is ds _ _ e], ?_⟩
      exact tg_names is h ds vs Z S H δ σ FS δ' hn sr hl he e Q q
  | _ => cases e
/-- the loop, by its items -/
theorem rd_loop {J : It} {items : List D} {Z0 T : AS} {H0 : Hp} {tg : D → DS → Option DS} {body : DS → Option ES} {g : TG} {tb : TS} (src : Src G J items Z0 T H0) (htg : TgOk G n pn tg g)
    (hb : ∀ D σ H, rdS G W n pn body D σ H → tb D σ H) {D : Ends} {δ0 : DS} {σ0 : St} {H1 : Hp} {Z1 : AS} {S FS1 : Nat → AS} {r : ES} (hn : σ0.length = n) (sr : SR G Z1 S H1 δ0 σ0 FS1) (hz : ∀ a, Z0 a → Z1 a)
    (hk : ∀ a, (Z0 a ∨ T a) → ∀ o, H0 a = some o → H1 a = some o) (htr : ∀ a, T a → ∃ o, H1 a = some o) (hto : ∀ a, T a → ¬ Own FS1 a) (hr : evForL tg body items δ0 = some r) (w : WantS G W S pn D σ0 H1 Z1 FS1 r) :
    ∃ Wn : Nat → Nat → St → Hp → Prop, (∃ m, Wn 0 m σ0 H1) ∧ ∀ i m σ H, Wn i m σ H →
      (J.stop i H ∧ D.nx σ H) ∨ (J.go i H ∧ ∃ N : St → Hp → Prop, (∀ σ' H', N σ' H' → ∃ m', m' < m ∧ Wn (i + 1) m' σ' H') ∧ ∀ x H', J.yld i H x H' → g x σ H' fun σ2 H2 => tb { D with nx := N, ct := N, bk := D.nx } σ2 H2) := by
  refine ⟨fun i m σ H => m + i = items.length ∧ σ.length = n ∧ ∃ δ Z FS, SR G Z S H δ σ FS ∧ (∀ a, Z0 a → Z a) ∧ (∀ a, (Z0 a ∨ T a) → ∀ o, H0 a = some o → H a = some o) ∧ (∀ a, T a → ∃ o, H a = some o) ∧ (∀ a, T a → ¬ Own FS a) ∧
    evForL tg body (items.drop i) δ = some r ∧ WantS G W S pn D σ H Z FS r, ⟨items.length, rfl, hn, δ0, Z1, FS1, sr, hz, hk, htr, hto, by simpa using hr, w⟩, ?_⟩
  rintro i m σ H ⟨hm, hn, δ, Z, FS, sr, hz, hk, htr, hto, hr, w⟩
  by_cases hlt : i < items.length
  · refine .inr ⟨src.go Z H i hz hk hlt, _, fun σ' H' q => ⟨m - 1, by omega, q⟩, fun x H' y => ?_⟩
    obtain ⟨rfl, yd⟩ := src.yld Z H i x H' hz hk y
    have ei : items[i]? = some items[i] := by simp [hlt]
    rw [List.drop_eq_getElem_cons hlt, evForL] at hr
    cases e1 : tg items[i] δ with
    | none => rw [e1] at hr; cases hr
    | some δ1 =>
      rw [e1] at hr
      simp only at hr
      refine htg _ x Z S H' δ σ FS δ1 hn sr (yd _ ei) e1 _ fun σ1 FS1 sr1 o1 p1 => ?_
      have a1 : PostS G S pn σ H' Z FS δ1 σ1 H' Z FS1 := ⟨sr1, (Step.refl H' Z (Own FS)).sub o1, p1⟩
      cases e2 : body δ1 with
      | none => rw [e2] at hr; cases hr
      | some q =>
        obtain ⟨o, δ2⟩ := q
        rw [e2] at hr
        refine hb _ σ1 H' ⟨p1.1.trans hn, δ1, Z, S, FS1, sr1, (o, δ2), e2, ?_⟩
        have next : ∀ {σ2 : St} {H2 : Hp} {Z2 : AS} {FS2 : Nat → AS}, PostS G S pn σ1 H' Z FS1 δ2 σ2 H2 Z2 FS2 → evForL tg body (items.drop (i + 1)) δ2 = some r →
            (m - 1 + (i + 1) = items.length ∧ σ2.length = n ∧ ∃ δ Z FS, SR G Z S H2 δ σ2 FS ∧ (∀ a, Z0 a → Z a) ∧ (∀ a, (Z0 a ∨ T a) → ∀ o, H0 a = some o → H2 a = some o) ∧ (∀ a, T a → ∃ o, H2 a = some o) ∧ (∀ a, T a → ¬ Own FS a) ∧
              evForL tg body (items.drop (i + 1)) δ = some r ∧ WantS G W S pn D σ2 H2 Z FS r) := fun {σ2 H2 Z2 FS2} p hr2 => by
          have st := a1.st.trans p.st
          refine ⟨by omega, (p.pn.1.trans p1.1).trans hn, δ2, Z2, FS2, p.sr, fun a z => st.zin a (hz a z), fun a z o e => st.keep a o (hk a z o e) fun q => ?_, fun a z => ?_, fun a z q => ?_, hr2, w.back (a1.thenS p)⟩
          · rcases z with z | z
            · exact (sr.nz a q).1 (hz a z)
            · exact hto a z q
          · obtain ⟨o, e⟩ := htr a z; exact st.there a o e
          · rcases st.pnew a q with q | q
            · exact hto a z q
            · obtain ⟨o, e⟩ := htr a z; rw [q] at e; cases e
        cases o with
        | nx =>
          exact ⟨fun δ' e' σ2 H2 Z2 FS2 p => by cases e'; exact next p hr, fun _ e' => (by cases e'), fun _ e' => (by cases e'), fun _ _ e' => (by cases e'), fun _ _ e' => (by cases e')⟩
        | ct =>
          exact ⟨fun _ e' => (by cases e'), fun _ e' => (by cases e'), fun δ' e' σ2 H2 Z2 FS2 p => by cases e'; exact next p hr, fun _ _ e' => (by cases e'), fun _ _ e' => (by cases e')⟩
        | bk =>
          cases hr
          exact ⟨fun _ e' => (by cases e'), fun δ' e' σ2 H2 Z2 FS2 p => by cases e'; exact w.nx _ rfl σ2 H2 Z2 FS2 (a1.thenS p), fun _ e' => (by cases e'), fun _ _ e' => (by cases e'), fun _ _ e' => (by cases e')⟩
        | rt d =>
          cases hr
          exact ⟨fun _ e' => (by cases e'), fun _ e' => (by cases e'), fun _ e' => (by cases e'), fun d' δ' e' v σ2 H2 Z2 FS2 A p => by cases e'; exact w.rt d _ rfl v σ2 H2 Z2 FS2 A (a1.thenR p), fun _ _ e' => (by cases e')⟩
        | ex y =>
          cases hr
          exact ⟨fun _ e' => (by cases e'), fun _ e' => (by cases e'), fun _ e' => (by cases e'), fun _ _ e' => (by cases e'), fun x' δ' e' c dd σ2 H2 Z2 FS2 p => by cases e'; exact w.ex y _ rfl c dd σ2 H2 Z2 FS2 (a1.thenQ p)⟩
  · have ei : i = items.length := by omega
    subst ei
    rw [List.drop_length] at hr
    cases hr
    exact .inl ⟨src.stop Z H hz hk, w.nx δ rfl σ H Z FS (.refl sr)⟩
/-- while -/
theorem rd_whl {qt : Bool} {t : DS → Option EB} {body : DS → Option ES} {tt : TT} {tb : TS} {k0 : Nat} (ht : ∀ σ H Q, rdT G W qt t σ H Q → tt σ H Q) (hb : ∀ D σ H, rdS G W n pn body D σ H → tb D σ H) : ∀ D σ H, rdS G W n pn (evWhl t body k0) D σ H → tWhile tt tb D σ H := by
  rintro D σ0 H0 ⟨hn0, δ0, Z0, S, FS0, sr0, r, hr0, w0⟩
  refine ⟨fun m σ H => σ.length = n ∧ ∃ δ Z FS, SR G Z S H δ σ FS ∧ evWhl t body m δ = some r ∧ WantS G W S pn D σ H Z FS r, ⟨k0, hn0, δ0, Z0, FS0, sr0, hr0, w0⟩, ?_⟩
  rintro m σ H ⟨hn, δ, Z, FS, sr, hr, w⟩
  cases m with
  | zero => cases hr
  | succ k =>
    rw [evWhl] at hr
    refine ht σ H _ ⟨δ, Z, S, FS, sr, ?_, fun b δ1 h H1 Z1 FS1 p => ?_, fun x δ1 h c dd H1 Z1 FS1 p => ?_⟩
    · cases q : t δ with
      | none => rw [q] at hr; cases hr
      | some w => exact ⟨w, rfl⟩
    · rw [h] at hr
      simp only at hr
      have a1 : PostS G S pn σ H Z FS δ1 σ H1 Z1 FS1 := p.s
      cases b with
      | false =>
        rw [if_neg Bool.false_ne_true]
        rw [if_neg Bool.false_ne_true] at hr
        cases hr
        exact w.nx _ rfl σ H1 Z1 FS1 a1
      | true =>
        rw [if_pos rfl]
        rw [if_pos rfl] at hr
        refine ⟨_, fun σ' H' q => ⟨k, Nat.lt_succ_self k, q⟩, ?_⟩
        cases e2 : body δ1 with
        | none => rw [e2] at hr; cases hr
        | some q =>
          obtain ⟨o, δ2⟩ := q
          rw [e2] at hr
          refine hb _ σ H1 ⟨hn, δ1, Z1, S, FS1, p.sr, (o, δ2), e2, ?_⟩
          cases o with
          | nx =>
            exact ⟨fun δ' e' σ2 H2 Z2 FS2 p2 => by cases e'; exact ⟨p2.pn.1.trans hn, δ2, Z2, FS2, p2.sr, hr, w.back (a1.thenS p2)⟩, fun _ e' => (by cases e'), fun _ e' => (by cases e'), fun _ _ e' => (by cases e'), fun _ _ e' => (by cases e')⟩
          | ct =>
            exact ⟨fun _ e' => (by cases e'), fun _ e' => (by cases e'), fun δ' e' σ2 H2 Z2 FS2 p2 => by cases e'; exact ⟨p2.pn.1.trans hn, δ2, Z2, FS2, p2.sr, hr, w.back (a1.thenS p2)⟩, fun _ _ e' => (by cases e'), fun _ _ e' => (by cases e')⟩
          | bk =>
            cases hr
            exact ⟨fun _ e' => (by cases e'), fun δ' e' σ2 H2 Z2 FS2 p => by cases e'; exact w.nx _ rfl σ2 H2 Z2 FS2 (a1.thenS p), fun _ e' => (by cases e'), fun _ _ e' => (by cases e'), fun _ _ e' => (by cases e')⟩
          | rt d =>
            cases hr
            exact ⟨fun _ e' => (by cases e'), fun _ e' => (by cases e'), fun _ e' => (by cases e'), fun d' δ' e' v σ2 H2 Z2 FS2 A p => by cases e'; exact w.rt d _ rfl v σ2 H2 Z2 FS2 A (a1.thenR p), fun _ _ e' => (by cases e')⟩
          | ex y =>
            cases hr
            exact ⟨fun _ e' => (by cases e'), fun _ e' => (by cases e'), fun _ e' => (by cases e'), fun _ _ e' => (by cases e'), fun x' δ' e' c dd σ2 H2 Z2 FS2 p => by cases e'; exact w.ex y _ rfl c dd σ2 H2 Z2 FS2 (a1.thenQ p)⟩
    · rw [h] at hr; cases hr
      exact w.ex x _ rfl c dd σ H1 Z1 FS1 p.q
end
end PD
/-! P, part 9: what is walked; for. -/
namespace PD
open PySem L2

/-- a list, a tuple or a text, whatever comes -/
def iAny (K : PySem.W.Frag) (tl : TE) : TI := fun σ H R => tl σ H fun x H1 => (∃ a, x = .ref a ∧ (∃ xs, SqL K H1 a xs) ∧ R (Itl K a) H1) ∨ (∃ a, x = .ref a ∧ (∃ xs, SqT K H1 a xs) ∧ R (Itt K a) H1) ∨ ∃ z, x = .str z ∧ R (Its z) H1
theorem pi_any {X : Cx} {tg l : Expr} {tl : TE} (hl : PE X l tl) : PI X tg l (iAny X.K tl) := by
  refine ⟨fun pins s σ H R I h => ?_⟩
  refine thn (hl.run pins s σ H _ I h) fun v s1 ⟨x, H1, I1, r1, q1⟩ => ?_
  rcases q1 with ⟨a, e, ⟨xs, hq⟩, q⟩ | ⟨a, e, ⟨xs, hq⟩, q⟩ | ⟨z, e, q⟩
  · subst e
    cases r1
    obtain ⟨its, rv, p, hz⟩ := I1.list hq
    refine wpAny_pyIter_list p.isList ?_
    refine ⟨s1.heap.objs.size, [s1.heap.objs.size], _, _, H1, rfl, I1.kept (t' := s1.toks) fun b o e => Heap.get?_push_of_some _ e, turn_list a _, ⟨_, Heap.get?_push_size _ rfl, rfl, rfl⟩, fun b hb => ?_, q⟩
    have e : b = s1.heap.objs.size := by simpa using hb
    subst e
    exact I1.fpOk (Nat.le_refl _) (I1.hok.fresh (Nat.le_refl _))
  · subst e
    cases r1
    obtain ⟨its, rv, p, hz⟩ := I1.tuple hq
    refine wpAny_pyIter_tuple (show s1.heap.IsTuple a its.toArray from p) ?_
    refine ⟨s1.heap.objs.size, [s1.heap.objs.size], _, _, H1, rfl, I1.kept (t' := s1.toks) fun b o e => Heap.get?_push_of_some _ e, turn_tuple a _, ⟨_, Heap.get?_push_size _ rfl, rfl, rfl⟩, fun b hb => ?_, q⟩
    have e : b = s1.heap.objs.size := by simpa using hb
    subst e
    exact I1.fpOk (Nat.le_refl _) (I1.hok.fresh (Nat.le_refl _))
  · subst e
    obtain ⟨t, rfl⟩ := r1
    cases ha : z.cps.all (· < 128)
    · exact wpAny_pyIter_wide ha (pi_one (tk := s1.toks) I1 _ (turn_str _ z t "str_iterator" (.inr rfl)) ⟨_, Heap.get?_push_size _ rfl, rfl, rfl⟩ q)
    · exact wpAny_pyIter_ascii ha (pi_one (tk := s1.toks) I1 _ (turn_str _ z t "str_ascii_iterator" (.inl rfl)) ⟨_, Heap.get?_push_size _ rfl, rfl, rfl⟩ q)

def signs (z : Str) : List D := z.cps.toList.map fun c => .str ⟨#[c]⟩
/-- the items that a loop goes through -/
def itemsOf : D → Option (List D)
  | .lst m xs => if shal m then some xs else none
  | .tup xs => some xs
  | .str z => some (signs z)
  | _ => none
def owned : D → Bool
  | .lst .o _ => true
  | _ => false
/-- a source: its items, or (a name that owns its list) the name -/
inductive Sr where
  | all (xs : List D)
  | lent (i : Nat) (d : D) (xs : List D)
abbrev EI := RR Sr × DS
/-- rt: the name that the source is; vw: it is a view -/
def evSrc (rt : Option Nat) (vw : Bool) (f : DS → Option ER) : DS → Option EI := fun δ => match f δ with
  | none => none
  | some (.ex x, δ') => some (.ex x, δ')
  | some (.ok d, δ') => match itemsOf d with
    | none => none
    | some xs => if vw && owned d then match rt with
        | none => none
        | some i => some (.ok (.lent i d xs), δ'.set i (some (lend d)))
      else some (.ok (.all xs), δ')
/-- range(n), range(a, b) -/
def intD : D → Option Int
  | .int i => some i
  | _ => none
def upto (lo : Int) (n : Nat) : List D := (List.range n).map fun k => .int (lo + (k : Nat))
def rng1Of : List D → Option (List D)
  | [.int j] => if -(2 ^ 62) ≤ j ∧ j < 2 ^ 62 then some (upto 0 j.toNat) else none
  | _ => none
def rng2Of : List D → Option (List D)
  | [.int i, .int j] => if -(2 ^ 62) ≤ i ∧ i < 2 ^ 62 ∧ -(2 ^ 62) ≤ j ∧ j < 2 ^ 62 then some (upto i (j - i).toNat) else none
  | _ => none
def evRng (g : List D → Option (List D)) (f : DS → Option EA) : DS → Option EI := fun δ => match f δ with
  | none => none
  | some (.ex x, δ') => some (.ex x, δ')
  | some (.ok ds, δ') => match g ds with
    | none => none
    | some xs => some (.ok (.all xs), δ')
def srItems : Sr → List D
  | .all xs => xs
  | .lent _ _ xs => xs
def srBack : Sr → DS → DS
  | .all _, δ => δ
  | .lent i d _, δ => δ.set i (some d)
def srS (S FS : Nat → AS) : Sr → Nat → AS
  | .all _ => S
  | .lent i _ _ => fun j x => S j x ∨ (j = i ∧ FS i x)

section
variable {G : GC} {W : WX} {X : Cx} {n : Nat} {pn : List Nat}
/-- a slot's own things are lent -/
theorem SR.lend {Z : AS} {S : Nat → AS} {H : Hp} {δ : DS} {σ : St} {FS : Nat → AS} {i : Nat} {d : D} (r : SR G Z S H δ σ FS) (e : δ[i]? = some (some d)) :
    SR G Z (fun j x => S j x ∨ (j = i ∧ FS i x)) H (δ.set i (some (PD.lend d))) σ (fun j x => j ≠ i ∧ FS j x) where
  len := by rw [List.length_set]; exact r.len
  slot := fun j w ew => by
    rcases set_at ew with ⟨hj, ew2⟩ | ⟨hj, ew2⟩
    · cases ew2
      obtain ⟨v, ev, rp⟩ := r.slot i d e
      exact ⟨v, by rw [hj]; exact ev, (rp.lent.mono (fun _ z => z) (fun x z => by rw [hj]; exact z.imp id fun q => ⟨rfl, q⟩) fun _ _ _ e => e).congr fun x => ⟨fun q => (q.1 hj).elim, fun q => q.elim⟩⟩
    · obtain ⟨u, eu, rp⟩ := r.slot j w ew2
      exact ⟨u, eu, (rp.mono (fun _ z => z) (fun _ z => .inl z) fun _ _ _ e => e).congr fun x => ⟨fun q => q.2, fun q => ⟨hj, q⟩⟩⟩
  empt := fun j h x q => by
    refine r.empt j (fun w ew => h w ?_) x q.2
    rw [List.getElem?_set_ne (Ne.symm q.1)]; exact ew
  disj := fun j k x a b => r.disj j k x a.2 b.2
  zs := r.zs
  ss := fun a ⟨j, q⟩ => q.elim (fun z => r.ss a ⟨j, z⟩) fun z => r.own a ⟨i, z.2⟩
  nz := fun a ⟨j, hj, q⟩ => ⟨(r.nz a ⟨j, q⟩).1, fun ⟨k, z⟩ => z.elim (fun z => (r.nz a ⟨j, q⟩).2 ⟨k, z⟩) fun z => hj (r.disj j i a q z.2)⟩
/-- .. and given back -/
theorem SR.unlend {Z Z' : AS} {S : Nat → AS} {H H' : Hp} {δ δ' : DS} {σ σ' : St} {FS FS' : Nat → AS} {i : Nat} {d : D} (r : SR G Z S H δ σ FS) (e : δ[i]? = some (some d))
    (r' : SR G Z' (fun j x => S j x ∨ (j = i ∧ FS i x)) H' δ' σ' FS') (st : Step H Z (Own fun j x => j ≠ i ∧ FS j x) H' Z' (Own FS')) (es : σ'[i]? = σ[i]?) :
    SR G Z' S H' (δ'.set i (some d)) σ' (fun j x => (j = i ∧ FS i x) ∨ (j ≠ i ∧ FS' j x)) ∧ Step H Z (Own FS) H' Z' (Own fun j x => (j = i ∧ FS i x) ∨ (j ≠ i ∧ FS' j x)) := by
  obtain ⟨v, ev, rp⟩ := r.slot i d e
  have notP : ∀ x, FS i x → ¬ Own (fun j x => j ≠ i ∧ FS j x) x := fun x h ⟨j, hj, q⟩ => hj (r.disj j i x q h)
  have apart : ∀ j x, FS' j x → FS i x → False := fun j x a b => by
    rcases st.pnew x ⟨j, a⟩ with z | z
    · exact notP x b z
    · obtain ⟨o, e⟩ := r.own x ⟨i, b⟩; rw [z] at e; cases e
  refine ⟨⟨by rw [List.length_set]; exact r'.len, fun j w ew => ?_, fun j h x q => ?_, fun j k x a b => ?_, r'.zs, fun a ⟨j, z⟩ => r'.ss a ⟨j, .inl z⟩, fun a ⟨j, q⟩ => ?_⟩, ?_⟩
  · rcases set_at ew with ⟨hj, ew2⟩ | ⟨hj, ew2⟩
    · cases ew2
      subst hj
      refine ⟨v, es.trans ev, ((rp.mono st.zin (fun _ z => z) fun a z o ea => st.keep a o ea fun q => ?_)).congr fun x => ⟨fun q => q.elim (fun z => z.2) fun z => (z.1 rfl).elim, fun q => .inl ⟨rfl, q⟩⟩⟩
      obtain ⟨k, hk, q⟩ := q
      rcases z with z | z | z
      · exact (r.nz a ⟨k, q⟩).1 z
      · exact (r.nz a ⟨k, q⟩).2 ⟨_, z⟩
      · exact hk (r.disj k _ a q z)
    · obtain ⟨u, eu, rp'⟩ := r'.slot j w ew2
      exact ⟨u, eu, (rp'.mono (fun _ z => z) (fun x z => z.elim id fun z => (hj z.1).elim) fun _ _ _ e => e).congr fun x => ⟨fun q => q.elim (fun z => (hj z.1).elim) fun z => z.2, fun q => .inr ⟨hj, q⟩⟩⟩
  · rcases q with ⟨hj, q⟩ | ⟨hj, q⟩
    · subst hj
      have hl : j < δ'.length := by
        rw [r'.len]
        have := (List.getElem?_eq_some_iff.mp (es.trans ev)).1
        exact this
      exact h d (by rw [List.getElem?_set_self hl])
    · refine r'.empt j (fun w ew => h w ?_) x q
      rw [List.getElem?_set_ne (Ne.symm hj)]; exact ew
  · rcases a with ⟨hj, a⟩ | ⟨hj, a⟩ <;> rcases b with ⟨hk, b⟩ | ⟨hk, b⟩
    · rw [hj, hk]
    · exact (apart k x b a).elim
    · exact (apart j x a b).elim
    · exact r'.disj j k x a b
  · rcases q with ⟨hj, q⟩ | ⟨hj, q⟩
    · refine ⟨fun z => ?_, (r.nz a ⟨i, q⟩).2⟩
      rcases st.znew a z with z | z | z
      · exact (r.nz a ⟨i, q⟩).1 z
      · exact notP a q z
      · obtain ⟨o, e⟩ := r.own a ⟨i, q⟩; rw [z] at e; cases e
    · exact ⟨(r'.nz a ⟨j, q⟩).1, fun ⟨k, z⟩ => (r'.nz a ⟨j, q⟩).2 ⟨k, .inl z⟩⟩
  · refine ⟨fun a o ea q => st.keep a o ea fun ⟨j, _, z⟩ => q ⟨j, z⟩, st.there, st.zin, fun a z => (st.znew a z).imp id (·.imp (fun ⟨j, _, q⟩ => ⟨j, q⟩) id), fun a ⟨j, q⟩ => ?_⟩
    rcases q with ⟨_, q⟩ | ⟨_, q⟩
    · exact .inl ⟨i, q⟩
    · exact (st.pnew a ⟨j, q⟩).imp (fun ⟨k, _, q⟩ => ⟨k, q⟩) id

/-- behind a source: it stands (Src), and nothing of it is held by the slots -/
structure PostI (G : GC) (S : Nat → AS) (qt : Bool) (σ : St) (H : Hp) (Z : AS) (FS : Nat → AS) (s : Sr) (δ' : DS) (J : It) (H' : Hp) (Z' : AS) (FS' : Nat → AS) : Prop where
  ex : ∃ δ1 FS1 T, PostB G S qt σ H Z FS δ1 H' Z' FS1 ∧ Src G J (srItems s) Z' T H' ∧ (∀ a, T a → (∃ o, H' a = some o) ∧ ¬ Own FS' a) ∧
    SR G Z' (srS S FS1 s) H' δ' σ FS' ∧ match s with
      | .all _ => δ' = δ1 ∧ FS' = FS1
      | .lent i d _ => δ1[i]? = some (some d) ∧ δ' = δ1.set i (some (lend d)) ∧ FS' = fun j x => j ≠ i ∧ FS1 j x
def rdI (G : GC) (W : WX) (qt : Bool) (f : DS → Option EI) : TI := fun σ H R => ∃ δ Z S FS, SR G Z S H δ σ FS ∧ (∃ r, f δ = some r) ∧
  (∀ s δ', f δ = some (.ok s, δ') → ∀ J H' Z' FS', PostI G S qt σ H Z FS s δ' J H' Z' FS' → R J H') ∧
  (∀ x δ', f δ = some (.ex x, δ') → ∀ c dd H' Z' FS', PostX G S σ H Z FS x δ' c dd H' Z' FS' → W c dd σ H')

theorem src_list {Z : AS} {H : Hp} {a : Addr} {vs : List V} {xs : List D} {T : AS} (sq : (Rd H a (.lst vs) ∧ (Z a ∨ T a)) ∨ KwL G.K a vs) (hl : xs.length = vs.length) (he : ∀ (i : Nat) d w, xs[i]? = some d → vs[i]? = some w → RepF G Z H d w) : Src G (Itl G.K a) xs Z T H := by
  have keep : ∀ {H' : Hp}, (∀ a, (Z a ∨ T a) → ∀ o, H a = some o → H' a = some o) → SqL G.K H' a vs := fun {H'} k => by
    rcases sq with ⟨sq, z⟩ | sq
    · exact .inl (Rd.keep (k a z) sq)
    · exact .inr sq
  refine ⟨fun Z' H' i hz k hi => ⟨vs, vs[i]'(hl ▸ hi), keep k, by simp [hl ▸ hi]⟩, fun Z' H' hz k => ⟨vs, keep k, by rw [hl]; exact Nat.le_refl _⟩, fun Z' H' i x H2 hz k y => ⟨y.1, fun d e => ?_⟩⟩
  have := y.2 vs (keep k)
  exact (he i d x e this).mono hz fun a z o e => k a (.inl z) o e
theorem src_tup {Z : AS} {H : Hp} {a : Addr} {vs : List V} {xs : List D} {T : AS} (sq : (Rd H a (.tup vs) ∧ (Z a ∨ T a)) ∨ KwT G.K a vs) (hl : xs.length = vs.length) (he : ∀ (i : Nat) d w, xs[i]? = some d → vs[i]? = some w → RepF G Z H d w) : Src G (Itt G.K a) xs Z T H := by
  have keep : ∀ {H' : Hp}, (∀ a, (Z a ∨ T a) → ∀ o, H a = some o → H' a = some o) → SqT G.K H' a vs := fun {H'} k => by
    rcases sq with ⟨sq, z⟩ | sq
    · exact .inl (Rd.keep (k a z) sq)
    · exact .inr sq
  refine ⟨fun Z' H' i hz k hi => ⟨vs, vs[i]'(hl ▸ hi), keep k, by simp [hl ▸ hi]⟩, fun Z' H' hz k => ⟨vs, keep k, by rw [hl]; exact Nat.le_refl _⟩, fun Z' H' i x H2 hz k y => ⟨y.1, fun d e => ?_⟩⟩
  have := y.2 vs (keep k)
  exact (he i d x e this).mono hz fun a z o e => k a (.inl z) o e
theorem src_str {Z : AS} {H : Hp} {z : Str} {T : AS} : Src G (Its z) (signs z) Z T H := by
  have hl : (signs z).length = z.cps.size := by unfold signs; simp
  refine ⟨fun Z' H' i hz k hi => ?_, fun Z' H' hz k => ?_, fun Z' H' i x H2 hz k y => ⟨y.1, fun d e => ?_⟩⟩
  · show i < z.cps.size
    omega
  · show z.cps.size ≤ (signs z).length
    omega
  · obtain ⟨_, c, hc, rfl⟩ := y
    unfold signs at e
    obtain ⟨c', ec, rfl⟩ := getMap e
    have : c' = c := by
      rw [Array.getElem?_toList] at ec
      rw [hc] at ec
      exact (Option.some.inj ec).symm
    subst this
    exact .str _
theorem src_rng {Z : AS} {H : Hp} {lo : Int} {n : Nat} {T : AS} : Src G (Itr lo n) (upto lo n) Z T H := by
  have hl : (upto lo n).length = n := by unfold upto; simp
  refine ⟨fun Z' H' i hz k hi => ?_, fun Z' H' hz k => ?_, fun Z' H' i x H2 hz k y => ⟨y.1, fun d e => ?_⟩⟩
  · show i < n
    omega
  · show n ≤ (upto lo n).length
    omega
  · obtain ⟨_, rfl⟩ := y
    unfold upto at e
    obtain ⟨k, ek, rfl⟩ := getMap e
    have : k = i := by
      obtain ⟨h, e⟩ := List.getElem?_eq_some_iff.mp ek
      rw [List.getElem_range] at e
      exact e.symm
    subst this
    exact .int _
/-- a temporary list of arguments is let go -/
theorem PostA.b {S : Nat → AS} {ks : List Bool} {qt : Bool} {σ : St} {H : Hp} {Z : AS} {FS : Nat → AS} {ds : List D} {δ' : DS} {vs : List V} {H' : Hp} {Z' : AS} {FS' : Nat → AS} {B : Nat → AS} (p : PostA G S ks qt σ H Z FS ds δ' vs H' Z' FS' B) : PostB G S qt σ H Z FS δ' H' Z' FS' :=
  ⟨p.sr, p.st.sub fun _ z => .inl z, p.qq⟩
theorem rd_rng {g : List D → Option (List D)} {r : List V → Hp → (It → Hp → Prop) → Prop} (hg : ∀ Z S H ds vs xs R, ArgV G Z S H ds vs → g ds = some xs → (∀ J, (∀ Z' T H', Src G J xs Z' T H') → R J H) → r vs H R)
    {ks : List Bool} {qt : Bool} {f : DS → Option EA} {ta : TA} (ha : ∀ σ H Q, rdA G W ks qt f σ H Q → ta σ H Q) : ∀ σ H R, rdI G W qt (evRng g f) σ H R → ta σ H fun vs H1 => r vs H1 R := by
  rintro σ H R ⟨δ, Z, S, FS, sr, ⟨w, hf⟩, ok, ex⟩
  unfold evRng at hf ok ex
  refine ha σ H _ ⟨δ, Z, S, FS, sr, ?_, fun ds δ' h vs H' Z' FS' B p => ?_, fun x δ' h => ?_⟩
  · cases q : f δ with
    | none => rw [q] at hf; cases hf
    | some w => exact ⟨w, rfl⟩
  · rw [h] at hf ok
    simp only at hf ok
    cases e : g ds with
    | none => rw [e] at hf; cases hf
    | some xs =>
      rw [e] at ok
      exact hg Z' (Own S) H' ds vs xs _ p.ar.argV e fun J sj => ok (.all xs) δ' rfl J H' Z' FS' ⟨δ', FS', S0, p.b, sj _ _ _, fun a z => z.elim, p.sr, rfl, rfl⟩
  · rw [h] at ex
    exact ex x δ' rfl
theorem rng1_ok : ∀ Z S H ds vs xs (R : It → Hp → Prop), ArgV G Z S H ds vs → rng1Of ds = some xs → (∀ J, (∀ Z' T H', Src G J xs Z' T H') → R J H) → ∃ j : Int, vs = [.int j] ∧ -(2 ^ 62) ≤ j ∧ j < 2 ^ 62 ∧ R (Itr 0 j.toNat) H := by
  intro Z S H ds vs xs R a e h
  unfold rng1Of at e
  split at e
  · split at e
    · rename_i hb
      cases e
      obtain ⟨x, A, rfl, r1⟩ := argv1 a
      rw [r1.intV]
      exact ⟨_, rfl, hb.1, hb.2, h _ fun _ _ _ => src_rng⟩
    · cases e
  · cases e
theorem rng2_ok : ∀ Z S H ds vs xs (R : It → Hp → Prop), ArgV G Z S H ds vs → rng2Of ds = some xs → (∀ J, (∀ Z' T H', Src G J xs Z' T H') → R J H) → ∃ i j : Int, vs = [.int i, .int j] ∧ (-(2 ^ 62) ≤ i ∧ i < 2 ^ 62 ∧ -(2 ^ 62) ≤ j ∧ j < 2 ^ 62) ∧ R (Itr i (j - i).toNat) H := by
  intro Z S H ds vs xs R a e h
  unfold rng2Of at e
  split at e
  · split at e
    · rename_i hb
      cases e
      obtain ⟨x, y, A, B, rfl, r1, r2⟩ := argv2 a
      rw [r1.intV, r2.intV]
      exact ⟨_, _, rfl, hb, h _ fun _ _ _ => src_rng⟩
    · cases e
  · cases e
theorem Rep.lstS {Z S : AS} {H : Hp} {m : Fl} {xs : List D} {v : V} {A : AS} (r : Rep G Z S H (.lst m xs) v A) (hs : shal m = true) : ∃ a vs, v = .ref a ∧ ((Rd H a (.lst vs) ∧ (Z a ∨ S a ∨ A a)) ∨ KwL G.K a vs) ∧ xs.length = vs.length ∧ ∀ (i : Nat) d w, xs[i]? = some d → vs[i]? = some w → RepF G Z H d w := by
  cases r with
  | fz h hA =>
    cases h with
    | lsk h hl he => exact ⟨_, _, rfl, h.imp (fun z => ⟨z.2, .inl z.1⟩) id, hl, he⟩
    | lst z h hl he => exact ⟨_, _, rfl, .inl ⟨.inl h, .inl z⟩, hl, he⟩
  | lo h hl he hA => exact ⟨_, _, rfl, .inl ⟨.inl h, .inr (.inr ((hA _).mpr rfl))⟩, hl, he⟩
  | loo B h' hl he hd hn ho hA => exact absurd hs (by decide)
  | ll s h hl he hA => exact ⟨_, _, rfl, .inl ⟨.inl h, .inr (.inl s)⟩, hl, he⟩
  | lll s h hl he hA => exact absurd hs (by decide)
theorem Rep.tupS {Z S : AS} {H : Hp} {xs : List D} {v : V} {A : AS} (r : Rep G Z S H (.tup xs) v A) : ∃ a vs, v = .ref a ∧ ((Rd H a (.tup vs) ∧ (Z a ∨ S a ∨ A a)) ∨ KwT G.K a vs) ∧ xs.length = vs.length ∧ ∀ (i : Nat) d w, xs[i]? = some d → vs[i]? = some w → RepF G Z H d w := by
  cases r with
  | fz h hA =>
    cases h with
    | tup h hl he => exact ⟨_, _, rfl, h.imp (fun z => ⟨z.2, .inl z.1⟩) id, hl, he⟩
/-- an owned list that is no view, or a view that is not owned: the list is held by nobody else -/
theorem Rep.notOwned {Z S : AS} {H : Hp} {d : D} {v : V} {A : AS} {xs : List D} (r : Rep G Z S H d v A) (h : owned d = false) (hi : itemsOf d = some xs) : ∀ x, ¬ A x := by
  cases r with
  | fz h hA => exact hA
  | lo h' hl he hA => exact absurd (show true = false from h) (by decide)
  | ll s h hl he hA => exact hA
  | _ => exact absurd hi (by simp [itemsOf, shal])
/-- the items of a value, walked -/
theorem src_of {Z S : AS} {H : Hp} {d : D} {v : V} {A : AS} {xs : List D} (r : Rep G Z S H d v A) (hi : itemsOf d = some xs) : ∀ (R : It → Hp → Prop), (∀ J, Src G J xs Z (fun x => S x ∨ A x) H → R J H) →
    (∃ a, v = .ref a ∧ (∃ xs, SqL G.K H a xs) ∧ R (Itl G.K a) H) ∨ (∃ a, v = .ref a ∧ (∃ xs, SqT G.K H a xs) ∧ R (Itt G.K a) H) ∨ ∃ z, v = .str z ∧ R (Its z) H := by
  intro R h
  cases d with
  | lst m ys =>
    have hi : (if shal m = true then some ys else none) = some xs := hi
    by_cases hs : shal m = true
    · rw [if_pos hs] at hi; cases hi
      obtain ⟨a, vs, rfl, sq, hl, he⟩ := r.lstS hs
      exact .inl ⟨a, rfl, ⟨vs, sq.imp (fun z => z.1) id⟩, h _ (src_list sq hl he)⟩
    · rw [if_neg hs] at hi; cases hi
  | tup ys =>
    cases hi
    obtain ⟨a, vs, rfl, sq, hl, he⟩ := r.tupS
    exact .inr (.inl ⟨a, rfl, ⟨vs, sq.imp (fun z => z.1) id⟩, h _ (src_tup sq hl he)⟩)
  | str z =>
    cases hi
    rw [r.strV]
    exact .inr (.inr ⟨z, rfl, h _ src_str⟩)
  | _ => cases hi
/-- an expression's value is walked -/
theorem rd_src {vw qt : Bool} {f : DS → Option ER} {te : TE} (ha : ∀ σ H Q, rdE G W vw qt f σ H Q → te σ H Q) : ∀ σ H R, rdI G W qt (evSrc none vw f) σ H R → iAny G.K te σ H R := by
  rintro σ H R ⟨δ, Z, S, FS, sr, ⟨w, hf⟩, ok, ex⟩
  unfold evSrc at hf ok ex
  refine ha σ H _ ⟨δ, Z, S, FS, sr, ?_, fun d δ' h v H' Z' FS' A p => ?_, fun x δ' h => ?_⟩
  · cases q : f δ with
    | none => rw [q] at hf; cases hf
    | some w => exact ⟨w, rfl⟩
  · rw [h] at hf ok
    simp only at hf ok
    cases e : itemsOf d with
    | none => rw [e] at hf; cases hf
    | some xs =>
      rw [e] at hf ok
      simp only at hf ok
      by_cases hc : (vw && owned d) = true
      · rw [if_pos hc] at hf; cases hf
      · rw [if_neg hc] at ok
        have vl := p.vl
        have rp := p.rep
        refine src_of rp e R fun J sj => ok (.all xs) δ' rfl J H' Z' FS' ⟨δ', FS', _, p.b, sj, fun a z => ?_, p.sr, rfl, rfl⟩
        rcases z with z | z
        · exact ⟨p.sr.ss a z, fun q => (p.sr.nz a q).2 z⟩
        · refine ⟨rp.own a z, fun q => ?_⟩
          cases hv : vw with
          | true =>
            have ho : owned d = false := by
              cases q : owned d with
              | true => exact absurd (by simp [hv, q]) hc
              | false => rfl
            exact rp.notOwned ho e a z
          | false =>
            rw [hv, if_neg Bool.false_ne_true] at vl
            exact (vl.2 a z).2.2 q
  · rw [h] at ex
    exact ex x δ' rfl
/-- a name's list is walked; if the name owns it, it is lent meanwhile -/
theorem rd_srcV {i : Nat} : ∀ σ H R, rdI G W false (evSrc (some i) true (evVar i)) σ H R → iAny G.K (tVar i) σ H R := by
  rintro σ H R ⟨δ, Z, S, FS, sr, ⟨w, hf⟩, ok, ex⟩
  unfold evSrc evVar at hf ok
  cases e : δ[i]? with
  | none => rw [e] at hf; cases hf
  | some q =>
    cases q with
    | none => rw [e] at hf; cases hf
    | some d =>
      simp only [e] at hf ok
      obtain ⟨v, ev, rp⟩ := sr.slot i d e
      refine ⟨v, ev, ?_⟩
      cases ei : itemsOf d with
      | none => rw [ei] at hf; cases hf
      | some xs =>
        rw [ei] at hf ok
        simp only at hf ok
        have sb : PostB G S false σ H Z FS δ H Z FS := ⟨sr, Step.refl _ _ _, fun q => absurd q Bool.false_ne_true⟩
        by_cases hc : owned d = true
        · rw [hc] at ok
          refine src_of rp ei R fun J sj => ok (.lent i d xs) _ rfl J H Z _ ⟨δ, FS, _, sb, sj, fun a z => ?_, sr.lend e, e, rfl, rfl⟩
          rcases z with z | z
          · exact ⟨sr.ss a ⟨i, z⟩, fun ⟨j, _, q⟩ => (sr.nz a ⟨j, q⟩).2 ⟨i, z⟩⟩
          · exact ⟨rp.own a z, fun ⟨j, hj, q⟩ => hj (sr.disj j i a q z)⟩
        · have hc' : owned d = false := by cases q : owned d <;> simp_all
          rw [hc'] at ok
          refine src_of rp ei R fun J sj => ok (.all xs) _ rfl J H Z FS ⟨δ, FS, _, sb, sj, fun a z => ?_, sr, rfl, rfl⟩
          rcases z with z | z
          · exact ⟨sr.ss a ⟨i, z⟩, fun q => (sr.nz a q).2 ⟨i, z⟩⟩
          · exact (rp.notOwned hc' ei a z).elim
def evFor (fs : DS → Option EI) (tg : D → DS → Option DS) (body : DS → Option ES) : DS → Option ES := fun δ => match fs δ with
  | none => none
  | some (.ex x, δ') => some (.ex x, δ')
  | some (.ok s, δ') => match evForL tg body (srItems s) δ' with
    | none => none
    | some (o, δ2) => some (o, srBack s δ2)
theorem Pin.sub {pn pn' : List Nat} {σ σ' : St} (h : Pin pn' σ σ') (s : ∀ i ∈ pn, i ∈ pn') : Pin pn σ σ' := ⟨h.1, fun i m => h.2 i (s i m)⟩
/-- the wants within a loop over what is lent -/
theorem WantS.lent {S : Nat → AS} {Dn : Ends} {σ : St} {H : Hp} {Z : AS} {FS : Nat → AS} {δ : DS} {i : Nat} {d : D} {pn' : List Nat} {o : Out} {δ2 : DS} (sr : SR G Z S H δ σ FS) (e : δ[i]? = some (some d)) (hi : i ∈ pn') (hp : ∀ j ∈ pn, j ∈ pn')
    (w : WantS G W S pn Dn σ H Z FS (o, δ2.set i (some d))) : WantS G W (fun j x => S j x ∨ (j = i ∧ FS i x)) pn' Dn σ H Z (fun j x => j ≠ i ∧ FS j x) (o, δ2) := by
  have un := fun {H' : Hp} {Z' : AS} {δ' : DS} {σ' : St} {FS' : Nat → AS} (r' : SR G Z' (fun j x => S j x ∨ (j = i ∧ FS i x)) H' δ' σ' FS') (st : Step H Z (Own fun j x => j ≠ i ∧ FS j x) H' Z' (Own FS')) (pw : Pin pn' σ σ') => sr.unlend e r' st (pw.2 i hi)
  refine ⟨fun δ' e' σ' H' Z' FS' p => ?_, fun δ' e' σ' H' Z' FS' p => ?_, fun δ' e' σ' H' Z' FS' p => ?_, fun d' δ' e' v σ' H' Z' FS' A p => ?_, fun x δ' e' c dd σ' H' Z' FS' p => ?_⟩
  · cases e'
    obtain ⟨a, b⟩ := un p.sr p.st p.pn
    exact w.nx _ rfl σ' H' Z' _ ⟨a, b, p.pn.sub hp⟩
  · cases e'
    obtain ⟨a, b⟩ := un p.sr p.st p.pn
    exact w.bk _ rfl σ' H' Z' _ ⟨a, b, p.pn.sub hp⟩
  · cases e'
    obtain ⟨a, b⟩ := un p.sr p.st p.pn
    exact w.ct _ rfl σ' H' Z' _ ⟨a, b, p.pn.sub hp⟩
  · cases e'
    obtain ⟨a, b⟩ := un p.sr (p.st.sub fun _ z => .inl z) p.pn
    have nS : ∀ x, A x → ¬ FS i x := fun x hx z => (p.vl.2 x hx).2.1 ⟨i, .inr ⟨rfl, z⟩⟩
    refine w.rt _ _ rfl v σ' H' Z' _ A ⟨a, ?_, ⟨p.vl.1, fun x hx => ⟨(p.vl.2 x hx).1, fun ⟨j, z⟩ => (p.vl.2 x hx).2.1 ⟨j, .inl z⟩, fun ⟨j, z⟩ => ?_⟩⟩, p.pn.sub hp⟩
    · refine { b with pnew := fun x z => ?_ }
      rcases z with z | z
      · exact b.pnew x z
      · rcases p.st.pnew x (.inr z) with ⟨j, _, q⟩ | q
        · exact .inl ⟨j, q⟩
        · exact .inr q
    · rcases z with ⟨_, z⟩ | ⟨_, z⟩
      · exact nS x hx z
      · exact (p.vl.2 x hx).2.2 ⟨j, z⟩
  · cases e'
    obtain ⟨a, b⟩ := un p.sr p.st p.pn
    exact w.ex x _ rfl c dd σ' H' Z' _ ⟨a, b, p.xr, p.pn.sub hp⟩
theorem WantS.pin {S : Nat → AS} {D : Ends} {σ : St} {H : Hp} {Z : AS} {FS : Nat → AS} {pn' : List Nat} {r : ES} (hp : ∀ j ∈ pn, j ∈ pn') (w : WantS G W S pn D σ H Z FS r) : WantS G W S pn' D σ H Z FS r :=
  ⟨fun δ' e' σ' H' Z' FS' p => w.nx δ' e' σ' H' Z' FS' ⟨p.sr, p.st, p.pn.sub hp⟩, fun δ' e' σ' H' Z' FS' p => w.bk δ' e' σ' H' Z' FS' ⟨p.sr, p.st, p.pn.sub hp⟩, fun δ' e' σ' H' Z' FS' p => w.ct δ' e' σ' H' Z' FS' ⟨p.sr, p.st, p.pn.sub hp⟩,
    fun d' δ' e' v σ' H' Z' FS' A p => w.rt d' δ' e' v σ' H' Z' FS' A ⟨p.sr, p.st, p.vl, p.pn.sub hp⟩, fun x δ' e' c dd σ' H' Z' FS' p => w.ex x δ' e' c dd σ' H' Z' FS' ⟨p.sr, p.st, p.xr, p.pn.sub hp⟩⟩
theorem rd_for {qt : Bool} {pn' : List Nat} {fs : DS → Option EI} {tg : D → DS → Option DS} {body : DS → Option ES} {wi : TI} {g : TG} {tb : TS} (hi : ∀ σ H R, rdI G W qt fs σ H R → wi σ H R) (htg : TgOk G n pn' tg g) (hb : ∀ D σ H, rdS G W n pn' body D σ H → tb D σ H)
    (hp : ∀ j ∈ pn, j ∈ pn') (hrt : ∀ δ i d xs δ', fs δ = some (.ok (.lent i d xs), δ') → i ∈ pn') : ∀ D σ H, rdS G W n pn (evFor fs tg body) D σ H → tFor wi g tb D σ H := by
  rintro D σ H ⟨hn, δ, Z, S, FS, sr, r, hr, w⟩
  unfold evFor at hr
  refine hi σ H _ ⟨δ, Z, S, FS, sr, ?_, fun s δ' h J H' Z' FS' p => ?_, fun x δ' h c dd H' Z' FS' p => ?_⟩
  · cases q : fs δ with
    | none => rw [q] at hr; cases hr
    | some w => exact ⟨w, rfl⟩
  · rw [h] at hr
    simp only at hr
    obtain ⟨δ1, FS1, T, pb, sj, tk, sr', hm⟩ := p.ex
    cases q : evForL tg body (srItems s) δ' with
    | none => rw [q] at hr; cases hr
    | some q2 =>
      obtain ⟨o, δ2⟩ := q2
      rw [q] at hr
      cases hr
      have w1 : WantS G W S pn D σ H' Z' FS1 (o, srBack s δ2) := w.back pb.s
      cases s with
      | all xs =>
        obtain ⟨rfl, rfl⟩ := hm
        exact rd_loop sj htg hb hn sr' (fun _ z => z) (fun _ _ _ e => e) (fun a z => (tk a z).1) (fun a z => (tk a z).2) q (w1.pin hp)
      | lent i d xs =>
        obtain ⟨ei, rfl, rfl⟩ := hm
        exact rd_loop sj htg hb hn sr' (fun _ z => z) (fun _ _ _ e => e) (fun a z => (tk a z).1) (fun a z => (tk a z).2) q (w1.lent pb.sr ei (hrt _ _ _ _ _ h) hp)
  · rw [h] at hr; cases hr
    exact w.ex x _ rfl c dd σ H' Z' FS' p.q
end
end PD
/-! P, part 10: list comprehensions. -/
namespace PD
open PySem L2

def wipeD : List Nat → DS → DS
  | [], δ => δ
  | v :: vs, δ => (wipeD vs δ).set v none
/-- the slots vs as they were -/
def backD : List Nat → DS → DS → DS
  | [], _, δ => δ
  | v :: vs, δ0, δ => (backD vs δ0 δ).set v ((δ0[v]?).getD none)
def evCmp (tg : D → DS → Option DS) (t : DS → Option EB) (f : DS → Option ER) (vs : List Nat) : List D → List D → DS → Option (List D × DS)
  | [], acc, δ => some (acc, δ)
  | d :: r, acc, δ => match tg d δ with
    | none => none
    | some δ1 => match t δ1 with
      | some (.ok b, δ2) => if b = true then match f δ2 with
          | some (.ok y, δ3) => if acc.length < 1000000 then evCmp tg t f vs r (acc ++ [cap y]) (wipeD vs δ3) else none
          | _ => none
        else evCmp tg t f vs r acc (wipeD vs δ2)
      | _ => none
def evLc (fs : DS → Option EI) (tg : D → DS → Option DS) (t : DS → Option EB) (f : DS → Option ER) (vs : List Nat) : DS → Option ER := fun δ => match fs δ with
  | none => none
  | some (.ex x, δ') => some (.ex x, δ')
  | some (.ok s, δ') => match evCmp tg t f vs (srItems s) [] (wipeD vs δ') with
    | none => none
    | some (acc, δ2) => some (.ok (.lst .o acc), srBack s (backD vs δ' δ2))
/-- the places that are not the comprehension's own -/
def outside (n : Nat) (vs : List Nat) : List Nat := (List.range n).filter fun i => !vs.contains i
theorem mem_outside {n : Nat} {vs : List Nat} {i : Nat} : i ∈ outside n vs ↔ i < n ∧ i ∉ vs := by
  unfold outside
  rw [List.mem_filter, List.mem_range]
  simp
theorem wipeD_len (δ : DS) : ∀ vs, (wipeD vs δ).length = δ.length
  | [] => rfl
  | v :: vs => by rw [wipeD, List.length_set, wipeD_len δ vs]
theorem wipeD_in {δ : DS} : ∀ {vs : List Nat} {i : Nat} {d : D}, i ∈ vs → (wipeD vs δ)[i]? ≠ some (some d)
  | v :: vs, i, d, h => by
    intro e
    rw [wipeD] at e
    rcases set_at e with ⟨hj, e2⟩ | ⟨hj, e2⟩
    · cases e2
    · exact wipeD_in ((List.mem_cons.mp h).resolve_left hj) e2
theorem wipeD_out {δ : DS} : ∀ {vs : List Nat} {i : Nat}, i ∉ vs → (wipeD vs δ)[i]? = δ[i]?
  | [], _, _ => rfl
  | v :: vs, i, h => by
    rw [wipeD, List.getElem?_set_ne (fun e => h (by rw [e]; exact List.mem_cons_self))]
    exact wipeD_out fun q => h (List.mem_cons_of_mem _ q)
theorem backD_len (δ0 δ : DS) : ∀ vs, (backD vs δ0 δ).length = δ.length
  | [] => rfl
  | v :: vs => by rw [backD, List.length_set, backD_len δ0 δ vs]
theorem backD_out {δ0 δ : DS} : ∀ {vs : List Nat} {i : Nat}, i ∉ vs → (backD vs δ0 δ)[i]? = δ[i]?
  | [], _, _ => rfl
  | v :: vs, i, h => by
    rw [backD, List.getElem?_set_ne (fun e => h (by rw [e]; exact List.mem_cons_self))]
    exact backD_out fun q => h (List.mem_cons_of_mem _ q)
theorem backD_in {δ0 δ : DS} : ∀ {vs : List Nat} {i : Nat}, i ∈ vs → i < δ.length → (backD vs δ0 δ)[i]? = some ((δ0[i]?).getD none)
  | v :: vs, i, h, hl => by
    rw [backD]
    by_cases e : i = v
    · subst e
      rw [List.getElem?_set_self (by rw [backD_len]; exact hl)]
    · rw [List.getElem?_set_ne (Ne.symm e)]
      exact backD_in ((List.mem_cons.mp h).resolve_left e) hl
theorem wipe_eq {σ σ2 : St} {n : Nat} {vs : List Nat} (h1 : σ.length = n) (h2 : σ2.length = n) (h : ∀ i, i < n → i ∉ vs → σ2[i]? = (wipe σ vs)[i]?) : wipe σ2 vs = wipe σ vs := by
  have win : ∀ (σ : St) (vs : List Nat) (i : Nat), i ∈ vs → i < σ.length → (wipe σ vs)[i]? = some none := by
    intro σ vs
    induction vs with
    | nil => intro i h; simp at h
    | cons v vs ih =>
      intro i h hl
      rw [wipe]
      by_cases e : i = v
      · subst e; rw [List.getElem?_set_self (by rw [wipe_length]; exact hl)]
      · rw [List.getElem?_set_ne (Ne.symm e)]
        exact ih i ((List.mem_cons.mp h).resolve_left e) hl
  refine List.ext_getElem? fun i => ?_
  by_cases hn : i < n
  · by_cases hv : i ∈ vs
    · rw [win σ2 vs i hv (by omega), win σ vs i hv (by omega)]
    · rw [wipe_out hv, h i hn hv]
  · rw [List.getElem?_eq_none (by rw [wipe_length]; omega), List.getElem?_eq_none (by rw [wipe_length]; omega)]
section
variable {G : GC} {W : WX} {X : Cx} {n : Nat} {pn : List Nat}
theorem SR.wipe {Z : AS} {S : Nat → AS} {H : Hp} {δ : DS} {σ : St} {FS : Nat → AS} (r : SR G Z S H δ σ FS) (vs : List Nat) : SR G Z S H (wipeD vs δ) (L2.wipe σ vs) (fun j x => j ∉ vs ∧ FS j x) where
  len := by rw [wipeD_len, wipe_length]; exact r.len
  slot := fun j d e => by
    by_cases h : j ∈ vs
    · exact absurd e (wipeD_in h)
    · rw [wipeD_out h] at e
      obtain ⟨v, ev, rp⟩ := r.slot j d e
      exact ⟨v, by rw [wipe_out h]; exact ev, rp.congr fun x => ⟨fun q => q.2, fun q => ⟨h, q⟩⟩⟩
  empt := fun j h x q => by
    refine r.empt j (fun d e => h d ?_) x q.2
    rw [wipeD_out q.1]; exact e
  disj := fun j k x a b => r.disj j k x a.2 b.2
  zs := r.zs
  ss := r.ss
  nz := fun a ⟨j, q⟩ => r.nz a ⟨j, q.2⟩
/-- an object of nobody's may change -/
theorem SR.other {Z : AS} {S : Nat → AS} {H : Hp} {δ : DS} {σ : St} {FS : Nat → AS} {a : Addr} {o : HO} (r : SR G Z S H δ σ FS) (h1 : ¬ Z a) (h2 : ¬ Own S a) (h3 : ¬ Own FS a) : SR G Z S (upd H a o) δ σ FS where
  len := r.len
  slot := fun i d e => by
    obtain ⟨v, ev, rp⟩ := r.slot i d e
    refine ⟨v, ev, rp.mono (fun _ z => z) (fun _ z => z) fun b z u eu => ?_⟩
    rw [upd_ne]; exact eu
    rintro rfl
    rcases z with z | z | z
    · exact h1 z
    · exact h2 ⟨i, z⟩
    · exact h3 ⟨i, z⟩
  empt := r.empt
  disj := r.disj
  zs := fun b z => by
    obtain ⟨u, e⟩ := r.zs b z
    exact ⟨u, by rw [upd_ne (by rintro rfl; exact h1 z)]; exact e⟩
  ss := fun b z => by
    obtain ⟨u, e⟩ := r.ss b z
    exact ⟨u, by rw [upd_ne (by rintro rfl; exact h2 z)]; exact e⟩
  nz := r.nz
/-- the own names of a block as they were -/
theorem SR.unwipe {Z Z' : AS} {S : Nat → AS} {H H' : Hp} {δ δ' : DS} {σ : St} {FS FS' : Nat → AS} {vs : List Nat} (r : SR G Z S H δ σ FS) (r' : SR G Z' S H' δ' (L2.wipe σ vs) FS')
    (st : Step H Z (Own fun j x => j ∉ vs ∧ FS j x) H' Z' (Own FS')) :
    SR G Z' S H' (backD vs δ δ') σ (fun j x => (j ∈ vs ∧ FS j x) ∨ (j ∉ vs ∧ FS' j x)) ∧ Step H Z (Own FS) H' Z' (Own fun j x => (j ∈ vs ∧ FS j x) ∨ (j ∉ vs ∧ FS' j x)) := by
  have notP : ∀ i x, i ∈ vs → FS i x → ¬ Own (fun j x => j ∉ vs ∧ FS j x) x := fun i x hi h ⟨j, hj, q⟩ => hj (r.disj j i x q h ▸ hi)
  have apart : ∀ i j x, i ∈ vs → FS' j x → FS i x → False := fun i j x hi a b => by
    rcases st.pnew x ⟨j, a⟩ with z | z
    · exact notP i x hi b z
    · obtain ⟨o, e⟩ := r.own x ⟨i, b⟩; rw [z] at e; cases e
  have hlen : δ'.length = δ.length := by rw [r'.len, wipe_length, r.len]
  refine ⟨⟨by rw [backD_len, hlen]; exact r.len, fun j w ew => ?_, fun j h x q => ?_, fun j k x a b => ?_, r'.zs, r'.ss, fun a ⟨j, q⟩ => ?_⟩, ?_⟩
  · by_cases hj : j ∈ vs
    · have hl : j < δ'.length := by
        have := (List.getElem?_eq_some_iff.mp ew).1
        rw [backD_len] at this; exact this
      rw [backD_in hj hl] at ew
      have hl2 : j < δ.length := by omega
      have e2 : δ[j]? = some (some w) := by
        have : δ[j]? = some δ[j] := by simp [hl2]
        rw [this] at ew
        simp at ew
        rw [this, ew]
      obtain ⟨v, ev, rp⟩ := r.slot j w e2
      refine ⟨v, ev, (rp.mono st.zin (fun _ z => z) fun a z o ea => st.keep a o ea fun q => ?_).congr fun x => ⟨fun q => q.elim (fun z => z.2) fun z => (z.1 hj).elim, fun q => .inl ⟨hj, q⟩⟩⟩
      obtain ⟨k, hk, q⟩ := q
      rcases z with z | z | z
      · exact (r.nz a ⟨k, q⟩).1 z
      · exact (r.nz a ⟨k, q⟩).2 ⟨_, z⟩
      · exact hk (r.disj k _ a q z ▸ hj)
    · rw [backD_out hj] at ew
      obtain ⟨u, eu, rp'⟩ := r'.slot j w ew
      rw [wipe_out hj] at eu
      exact ⟨u, eu, rp'.congr fun x => ⟨fun q => q.elim (fun z => (hj z.1).elim) fun z => z.2, fun q => .inr ⟨hj, q⟩⟩⟩
  · rcases q with ⟨hj, q⟩ | ⟨hj, q⟩
    · refine r.empt j (fun w ew => h w ?_) x q
      have hl : j < δ.length := (List.getElem?_eq_some_iff.mp ew).1
      rw [backD_in hj (by omega), ew]; rfl
    · refine r'.empt j (fun w ew => h w ?_) x q
      rw [backD_out hj]; exact ew
  · rcases a with ⟨hj, a⟩ | ⟨hj, a⟩ <;> rcases b with ⟨hk, b⟩ | ⟨hk, b⟩
    · exact r.disj j k x a b
    · exact (apart j k x hj b a).elim
    · exact (apart k j x hk a b).elim
    · exact r'.disj j k x a b
  · rcases q with ⟨hj, q⟩ | ⟨hj, q⟩
    · refine ⟨fun z => ?_, (r.nz a ⟨j, q⟩).2⟩
      rcases st.znew a z with z | z | z
      · exact (r.nz a ⟨j, q⟩).1 z
      · exact notP j a hj q z
      · obtain ⟨o, e⟩ := r.own a ⟨j, q⟩; rw [z] at e; cases e
    · exact r'.nz a ⟨j, q⟩
  · refine ⟨fun a o ea q => st.keep a o ea fun ⟨j, _, z⟩ => q ⟨j, z⟩, st.there, st.zin, fun a z => (st.znew a z).imp id (·.imp (fun ⟨j, _, q⟩ => ⟨j, q⟩) id), fun a ⟨j, q⟩ => ?_⟩
    rcases q with ⟨_, q⟩ | ⟨_, q⟩
    · exact .inl ⟨j, q⟩
    · exact (st.pnew a ⟨j, q⟩).imp (fun ⟨k, _, q⟩ => ⟨k, q⟩) id
theorem own_and {p : Nat → Prop} {FS : Nat → AS} {x : Addr} : Own (fun j x => p j ∧ FS j x) x → Own FS x := fun ⟨j, _, z⟩ => ⟨j, z⟩
/-- the captured value of an expression -/
theorem PostE.cap {S : Nat → AS} {qt : Bool} {σ : St} {H : Hp} {Z : AS} {FS : Nat → AS} {d : D} {δ' : DS} {v : V} {H' : Hp} {Z' : AS} {FS' : Nat → AS} {A : AS} (p : PostE G S false qt σ H Z FS d δ' v H' Z' FS' A) :
    RepF G (fun x => Z' x ∨ A x) H' (PD.cap d) v ∧ SR G (fun x => Z' x ∨ A x) S H' δ' σ FS' ∧ Step H Z (Own FS) H' (fun x => Z' x ∨ A x) (Own FS') := by
  have vl := p.vl
  rw [if_neg Bool.false_ne_true] at vl
  refine ⟨?_, p.sr.more fun x t => ⟨vl.1.own x t, (vl.2 x t).2⟩, ⟨p.st.keep, p.st.there, fun a z => .inl (p.st.zin a z), fun a z => ?_, fun a z => p.st.pnew a (.inl z)⟩⟩
  · unfold PD.cap
    by_cases hF : isF d = true
    · rw [if_pos hF]; exact (vl.1.frozen hF).1.mono (fun _ z => .inl z) fun _ _ _ e => e
    · rw [if_neg hF]; exact vl.1.freeze
  · rcases z with z | z
    · exact p.st.znew a z
    · exact (p.st.pnew a (.inr z)).elim (fun q => .inr (.inl q)) fun q => .inr (.inr q)
theorem fin {H H1 H2 : Hp} {Z Z1 Z2 P P1 P2 : AS} {L : Addr} (s2 : Step H Z P H2 Z2 P2) (s1 : Step H Z P H1 Z1 P1) (hL : H1 L = none) : Step H Z P H2 Z2 (fun x => P2 x ∨ x = L) := by
  refine { s2 with pnew := fun a z => z.elim (s2.pnew a) fun e => ?_ }
  subst e
  refine .inr ?_
  cases e : H a with
  | none => rfl
  | some o => obtain ⟨o', e'⟩ := s1.there a o e; rw [hL] at e'; cases e'
abbrev W0 : WX := fun _ _ _ _ => False
/-- [e for target in source if test] -/
theorem rd_lc {q1 q2 q3 : Bool} {fs : DS → Option EI} {tg : D → DS → Option DS} {t : DS → Option EB} {f : DS → Option ER} {vs : List Nat} {wi : TI} {g : TG} {tt : TT} {te : TE} (hi : ∀ σ H R, rdI G W q1 fs σ H R → wi σ H R) (htg : TgOk G n (outside n vs) tg g)
    (ht : ∀ σ H Q, rdT G W0 q2 t σ H Q → tt σ H Q) (hf : ∀ σ H Q, rdE G W0 false q3 f σ H Q → te σ H Q) (hrt : ∀ δ i d xs δ', fs δ = some (.ok (.lent i d xs), δ') → i ∉ vs) :
    ∀ σ H Q, σ.length = n → rdE G W false false (evLc fs tg t f vs) σ H Q → tLc wi g tt te vs σ H Q := by
  rintro σ H0 Q hn ⟨δ, Z, S, FS, sr, ⟨w, hev⟩, ok, ex⟩
  unfold evLc at hev ok ex
  refine hi σ H0 _ ⟨δ, Z, S, FS, sr, ?_, fun s δ1 h J H1 Z1 FS1 p => ?_, fun x δ' h => ?_⟩
  · cases q : fs δ with
    | none => rw [q] at hev; cases hev
    | some w => exact ⟨w, rfl⟩
  · rw [h] at hev ok
    simp only at hev ok
    obtain ⟨δ0, FS0, T, pb, sj, tk, sr1, hm⟩ := p.ex
    cases q : evCmp tg t f vs (srItems s) [] (wipeD vs δ1) with
    | none => rw [q] at hev; cases hev
    | some q2 =>
      obtain ⟨accF, δF⟩ := q2
      rw [q] at ok
      intro L hL
      have srw := sr1.wipe vs
      have nL1 : ¬ Z1 L := fun z => by obtain ⟨o, e⟩ := sr1.zs L z; rw [hL] at e; cases e
      have nL2 : ¬ Own (srS S FS0 s) L := fun z => by obtain ⟨o, e⟩ := sr1.ss L z; rw [hL] at e; cases e
      have nL3 : ¬ Own (fun j x => j ∉ vs ∧ FS1 j x) L := fun z => by obtain ⟨o, e⟩ := srw.own L z; rw [hL] at e; cases e
      refine ⟨fun i m H => m + i = (srItems s).length ∧ ∃ δ2 Z2 FS2 acc vacc, SR G Z2 (srS S FS0 s) H δ2 (L2.wipe σ vs) FS2 ∧ H L = some (.lst vacc) ∧ El (RepF G Z2 H) acc vacc ∧ ¬ Z2 L ∧ ¬ Own FS2 L ∧ Step H1 Z1 (Own fun j x => j ∉ vs ∧ FS1 j x) H Z2 (Own FS2) ∧
        evCmp tg t f vs ((srItems s).drop i) acc δ2 = some (accF, δF),
        ⟨(srItems s).length, rfl, wipeD vs δ1, Z1, _, [], [], srw.same (same_upd hL), upd_same, ⟨rfl, fun i x y e => by simp at e⟩, nL1, nL3, Step.same (same_upd hL) fun _ z => .inl z, by simpa using q⟩, ?_⟩
      rintro i m H ⟨hm1, δ2, Z2, FS2, acc, vacc, sr2, eL, ela, nZ, nF, st, hr⟩
      have keepZ : ∀ a, (Z1 a ∨ T a) → ∀ o, H1 a = some o → H a = some o := fun a z o e => st.keep a o e fun ⟨j, hj, q⟩ => by
        rcases z with z | z
        · exact (sr1.nz a ⟨j, q⟩).1 z
        · exact (tk a z).2 ⟨j, q⟩
      by_cases hlt : i < (srItems s).length
      · refine .inr ⟨sj.go Z2 H i st.zin keepZ hlt, _, fun H' q => ⟨m - 1, by omega, q⟩, fun x H' y => ?_⟩
        obtain ⟨rfl, yd⟩ := sj.yld Z2 H i x H' st.zin keepZ y
        have ei : (srItems s)[i]? = some (srItems s)[i] := by simp [hlt]
        rw [List.drop_eq_getElem_cons hlt, evCmp] at hr
        cases e1 : tg (srItems s)[i] δ2 with
        | none => rw [e1] at hr; cases hr
        | some δ3 =>
          rw [e1] at hr
          simp only at hr
          refine htg _ x Z2 _ H' δ2 _ FS2 δ3 (by rw [wipe_length]; exact hn) sr2 (yd _ ei) e1 _ fun σ3 FS3 sr3 o3 p3 => ?_
          have eqw : L2.wipe σ3 vs = L2.wipe σ vs := wipe_eq hn (by rw [p3.1, wipe_length]; exact hn) fun i h1 h2 => p3.2 i (mem_outside.mpr ⟨h1, h2⟩)
          refine ⟨eqw, ?_⟩
          have st3 := st.trans ((Step.refl H' Z2 (Own FS2)).sub o3)
          have nF3 : ¬ Own FS3 L := fun z => nF (o3 L z)
          -- the next turn, from a state with the block's names still set
          have next : ∀ {H4 : Hp} {δ4 : DS} {Z4 : AS} {FS4 : Nat → AS} {acc' : List D} {vacc' : List V}, SR G Z4 (srS S FS0 s) H4 δ4 σ3 FS4 → H4 L = some (.lst vacc') → El (RepF G Z4 H4) acc' vacc' → ¬ Z4 L → ¬ Own FS4 L → Step H1 Z1 (Own fun j x => j ∉ vs ∧ FS1 j x) H4 Z4 (Own FS4) →
              evCmp tg t f vs ((srItems s).drop (i + 1)) acc' (wipeD vs δ4) = some (accF, δF) → (m - 1 + (i + 1) = (srItems s).length ∧ ∃ δ2 Z2 FS2 acc vacc, SR G Z2 (srS S FS0 s) H4 δ2 (L2.wipe σ vs) FS2 ∧ H4 L = some (.lst vacc) ∧ El (RepF G Z2 H4) acc vacc ∧ ¬ Z2 L ∧ ¬ Own FS2 L ∧ Step H1 Z1 (Own fun j x => j ∉ vs ∧ FS1 j x) H4 Z2 (Own FS2) ∧
                evCmp tg t f vs ((srItems s).drop (i + 1)) acc δ2 = some (accF, δF)) := fun {H4 δ4 Z4 FS4 acc' vacc'} a b c d e g k => by
            refine ⟨by omega, wipeD vs δ4, Z4, fun j x => j ∉ vs ∧ FS4 j x, acc', vacc', ?_, b, c, d, fun z => e (own_and z), g.sub fun x z => own_and z, k⟩
            have := a.wipe vs
            rw [eqw] at this
            exact this
          refine ht σ3 H' _ ⟨δ3, Z2, _, FS3, sr3, ?_, fun b δ4 h4 H4 Z4 FS4 p4 => ?_, fun x δ4 h4 => ?_⟩
          · cases q : t δ3 with
            | none => rw [q] at hr; cases hr
            | some w => exact ⟨w, rfl⟩
          · rw [h4] at hr
            simp only at hr
            have kL : H4 L = some (.lst vacc) := p4.st.keep L _ eL nF3
            have nZ4 : ¬ Z4 L := fun z => by
              rcases p4.st.znew L z with z | z | z
              · exact nZ z
              · exact nF3 z
              · rw [z] at eL; cases eL
            have nF4 : ¬ Own FS4 L := fun z => (p4.st.pnew L z).elim nF3 fun q => by rw [q] at eL; cases eL
            have el4 : El (RepF G Z4 H4) acc vacc := ⟨ela.1, fun j x y e1 e2 => (ela.2 j x y e1 e2).step p4.st fun a z => (sr3.nz a z).1⟩
            cases b with
            | false =>
              rw [if_neg Bool.false_ne_true]
              rw [if_neg Bool.false_ne_true] at hr
              exact next p4.sr kL el4 nZ4 nF4 (st3.trans p4.st) hr
            | true =>
              rw [if_pos rfl]
              rw [if_pos rfl] at hr
              refine hf σ3 H4 _ ⟨δ4, Z4, _, FS4, p4.sr, ?_, fun d δ5 h5 v H5 Z5 FS5 A p5 => ?_, fun x δ5 h5 => ?_⟩
              · cases q : f δ4 with
                | none => rw [q] at hr; cases hr
                | some w => exact ⟨w, rfl⟩
              · rw [h5] at hr
                simp only at hr
                by_cases hz : acc.length < 1000000
                · rw [if_pos hz] at hr
                  obtain ⟨rf, srC, stC⟩ := p5.cap
                  have kL5 : H5 L = some (.lst vacc) := stC.keep L _ kL nF4
                  have nZ5 : ¬ (Z5 L ∨ A L) := fun z => by
                    rcases stC.znew L z with z | z | z
                    · exact nZ4 z
                    · exact nF4 z
                    · rw [z] at kL; cases kL
                  have nF5 : ¬ Own FS5 L := fun z => (stC.pnew L z).elim nF4 fun q => by rw [q] at kL; cases kL
                  have nS5 : ¬ Own (srS S FS0 s) L := nL2
                  have el5 : El (RepF G (fun x => Z5 x ∨ A x) H5) (acc ++ [PD.cap d]) (vacc ++ [v]) := by
                    refine ⟨by simp [el4.1], app_at el4.1 (fun j x y e1 e2 => (el4.2 j x y e1 e2).step stC fun a z => (p4.sr.nz a z).1) fun j x y e1 e2 => ?_⟩
                    cases j with
                    | zero => simp at e1 e2; subst e1 e2; exact rf
                    | succ j => simp at e1
                  refine ⟨vacc, kL5, by have := el4.1; rw [sizeLine_eq]; omega, ?_⟩
                  have ne : ∀ a, (Z5 a ∨ A a) → a ≠ L := fun a z e => nZ5 (e ▸ z)
                  refine next (srC.other nZ5 nS5 nF5) upd_same ⟨el5.1, fun j x y e1 e2 => (el5.2 j x y e1 e2).mono (fun _ z => z) fun a z o e => by rw [upd_ne (ne a z)]; exact e⟩ nZ5 nF5 ?_ hr
                  have s5 := (st3.trans p4.st).trans stC
                  refine ⟨fun a o e n => ?_, fun a o e => ?_, s5.zin, s5.znew, s5.pnew⟩
                  · rw [upd_ne]; exact s5.keep a o e n
                    rintro rfl; rw [hL] at e; cases e
                  · by_cases hq : a = L
                    · rw [hq]; exact ⟨_, upd_same⟩
                    · rw [upd_ne hq]; exact s5.there a o e
                · rw [if_neg hz] at hr; cases hr
              · rw [h5] at hr; cases hr
          · rw [h4] at hr; cases hr
      · have ei : i = (srItems s).length := by omega
        subst ei
        rw [List.drop_length] at hr
        cases hr
        refine .inl ⟨sj.stop Z2 H st.zin keepZ, ?_⟩
        obtain ⟨srb, stb⟩ := sr1.unwipe sr2 st
        have nB : ¬ Own (fun j x => (j ∈ vs ∧ FS1 j x) ∨ (j ∉ vs ∧ FS2 j x)) L := fun ⟨j, z⟩ => by
          rcases z with ⟨_, z⟩ | ⟨_, z⟩
          · obtain ⟨o, e⟩ := sr1.own L ⟨j, z⟩; rw [hL] at e; cases e
          · exact nF ⟨j, z⟩
        have rL : Rep G Z2 S0 H (.lst .o accF) (.ref L) (fun x => x = L) := .lo eL ela.1 ela.2 fun _ => Iff.rfl
        cases s with
        | all xs =>
          obtain ⟨rfl, rfl⟩ := hm
          refine ok _ _ rfl (.ref L) H Z2 _ (fun x => x = L) ⟨srb, ?_, ?_, fun q => absurd q Bool.false_ne_true⟩
          · exact fin (pb.st.trans stb) pb.st hL
          · rw [if_neg Bool.false_ne_true]
            exact ⟨rL, fun x e => by subst e; exact ⟨nZ, nL2, nB⟩⟩
        | lent i d xs =>
          obtain ⟨ei, rfl, rfl⟩ := hm
          obtain ⟨src, stc⟩ := pb.sr.unlend ei srb stb rfl
          have nS : ¬ Own S L := fun z => by obtain ⟨o, e⟩ := pb.sr.ss L z; rw [hL] at e; cases e
          have nC : ¬ Own (fun j x => (j = i ∧ FS0 i x) ∨ (j ≠ i ∧ ((j ∈ vs ∧ (j ≠ i ∧ FS0 j x)) ∨ (j ∉ vs ∧ FS2 j x)))) L := fun ⟨j, z⟩ => by
            rcases z with ⟨_, z⟩ | ⟨_, z⟩
            · obtain ⟨o, e⟩ := pb.sr.own L ⟨i, z⟩; rw [hL] at e; cases e
            · exact nB ⟨j, z⟩
          refine ok _ _ rfl (.ref L) H Z2 _ (fun x => x = L) ⟨src, ?_, ?_, fun q => absurd q Bool.false_ne_true⟩
          · exact fin (pb.st.trans stc) pb.st hL
          · rw [if_neg Bool.false_ne_true]
            exact ⟨rL, fun x e => by subst e; exact ⟨nZ, nS, nC⟩⟩
  · rw [h] at ex
    exact ex x δ' rfl
end
end PD
/-! P, part 11: own functions. -/
namespace PD
open PySem L2

/-- what a function does: data in, an answer and what its parameters hold behind it -/
abbrev FD := List D → Option ER
def spF (G : GC) (F : FD) : Sp := fun vs H Q E => ∃ ds Z S FS, SR G Z S H (ds.map some) (vs.map some) FS ∧ (∃ r, F ds = some r) ∧
  (∀ d δ', F ds = some (.ok d, δ') → ∀ v H' Z' FS' A, PostE G S false false (vs.map some) H Z FS d δ' v H' Z' FS' A → Q v H') ∧
  (∀ x δ', F ds = some (.ex x, δ') → ∀ c dd H' Z' FS', PostX G S (vs.map some) H Z FS x δ' c dd H' Z' FS' → E c dd H')
/-- arguments: views are lent, the others frozen -/
def argD : List Bool → List D → List D
  | k :: ks, d :: ds => (if k then lend d else cap d) :: argD ks ds
  | _, _ => []
def evCall (F : FD) (ks : List Bool) (dds : List D) (fa : DS → Option EA) : DS → Option ER := fun δ => match fa δ with
  | none => none
  | some (.ex x, δ') => some (.ex x, δ')
  | some (.ok ds, δ') => match F (argD ks ds ++ dds) with
    | none => none
    | some (.ex x, _) => some (.ex x, δ')
    | some (.ok d, _) => some (.ok d, δ')
def hd0 (δ : DS) : Option D := (δ[0]?).getD none
/-- the first argument is a name, and what it holds is changed -/
def evCallM (F : FD) (i : Nat) (ks : List Bool) (dds : List D) (fr : DS → Option EA) : DS → Option ER := fun δ => match δ[i]? with
  | some (some _) => match fr δ with
    | none => none
    | some (.ex x, δ') => some (.ex x, δ')
    | some (.ok ds, δ') => match δ'[i]? with
      | some (some d) => if capOk ks ds then match F (d :: (ds.map cap ++ dds)) with
        | none => none
        | some (.ex x, δr) => some (.ex x, δ'.set i (hd0 δr))
        | some (.ok r, δr) => some (.ok r, δ'.set i (hd0 δr)) else none
      | _ => none
  | _ => none
def outD (np : Nat) (m : Bool) (δ : DS) : DS := if m then hd0 δ :: List.replicate (np - 1) none else List.replicate np none
def fnOf (n np : Nat) (m : Bool) (ev : DS → Option ES) : FD := fun ds => if ds.length = np then
    match ev (ds.map some ++ List.replicate (n - np) none) with
    | some (.rt d, δ) => some (.ok d, outD np m δ)
    | some (.nx, δ) => some (.ok .non, outD np m δ)
    | some (.ex x, δ) => some (.ex x, outD np m δ)
    | _ => none
  else none
theorem fnOf_len {n np : Nat} {m : Bool} {ev : DS → Option ES} {ds : List D} {r : ER} (h : fnOf n np m ev ds = some r) : ds.length = np := by
  unfold fnOf at h
  by_cases e : ds.length = np
  · exact e
  · rw [if_neg e] at h; cases h
/-- written scalars, in each heap -/
def Cst (G : GC) (dds : List D) (dvs : List V) : Prop := ∀ Z H, El (RepF G Z H) dds dvs

section
variable {G : GC} {W : WX}
theorem argD_len : ∀ {ks : List Bool} {ds : List D}, ks.length = ds.length → (argD ks ds).length = ds.length
  | [], [], _ => rfl
  | k :: ks, d :: ds, h => by simp [argD, argD_len (ks := ks) (ds := ds) (by simpa using h)]
theorem argD_at : ∀ {ks : List Bool} {ds : List D} {j : Nat} {e : D}, (argD ks ds)[j]? = some e → ∃ k d, ks[j]? = some k ∧ ds[j]? = some d ∧ e = if k then lend d else cap d
  | [], _, j, e, h => by simp [argD] at h
  | k :: ks, [], j, e, h => by simp [argD] at h
  | k :: ks, d :: ds, 0, e, h => by simp [argD] at h; exact ⟨k, d, rfl, rfl, h.symm⟩
  | k :: ks, d :: ds, j + 1, e, h => by
    obtain ⟨k', d', h1, h2, h3⟩ := argD_at (ks := ks) (ds := ds) (by simpa [argD] using h)
    exact ⟨k', d', by simpa using h1, by simpa using h2, h3⟩
theorem cap_rep {Z : AS} {H : Hp} {d : D} {v : V} {A : AS} (r : Rep G Z S0 H d v A) : RepF G (fun x => Z x ∨ A x) H (cap d) v := by
  unfold cap
  by_cases hF : isF d = true
  · rw [if_pos hF]; exact (r.frozen hF).1.mono (fun _ z => .inl z) fun _ _ _ e => e
  · rw [if_neg hF]; exact r.freeze
theorem app_some {α : Type} {xs ys : List α} {j : Nat} {e : α} (h : (xs ++ ys)[j]? = some e) : (j < xs.length ∧ xs[j]? = some e) ∨ (xs.length ≤ j ∧ ys[j - xs.length]? = some e) := by
  by_cases hj : j < xs.length
  · rw [List.getElem?_append_left hj] at h; exact .inl ⟨hj, h⟩
  · rw [List.getElem?_append_right (by omega)] at h; exact .inr ⟨by omega, h⟩
theorem mapsome {α : Type} {xs : List α} {j : Nat} {e : α} (h : (xs.map some)[j]? = some (some e)) : xs[j]? = some e := by
  obtain ⟨x, e1, e2⟩ := getMap h
  rw [e1, Option.some.inj e2]
/-- the callee's slots: all lent or frozen -/
theorem SR.args {Z : AS} {S : Nat → AS} {H : Hp} {δ : DS} {σ : St} {FS : Nat → AS} {ks : List Bool} {ds dds : List D} {vs dvs : List V} {B : Nat → AS} (sr : SR G Z S H δ σ FS) (ar : ArgR G Z (Own S) H FS ks ds vs B) (hd : Cst G dds dvs) :
    SR G (fun x => Z x ∨ Tm ks B x) (fun j x => ks[j]? = some true ∧ (Own S x ∨ B j x)) H ((argD ks ds ++ dds).map some) ((vs ++ dvs).map some) (fun _ => S0) where
  len := by
    have := (hd S0 H).1
    have := ar.l1
    have := ar.l2
    simp [argD_len ar.l2]; omega
  slot := fun j e he => by
    have he := mapsome he
    have lA := argD_len ar.l2
    rcases app_some he with ⟨hj, he⟩ | ⟨hj, he⟩
    · obtain ⟨k, d, ek, ed, rfl⟩ := argD_at he
      have hv : j < vs.length := by rw [← ar.l1]; exact (List.getElem?_eq_some_iff.mp ed).1
      have ev : vs[j]? = some vs[j] := by simp [hv]
      have rp := ar.rep j d vs[j] k ed ev ek
      refine ⟨vs[j], by rw [List.getElem?_map, List.getElem?_append_left hv, ev]; rfl, ?_⟩
      cases k with
      | true =>
        rw [if_pos rfl] at rp ⊢
        exact rp.1.lent.mono (fun _ z => .inl z) (fun x z => ⟨ek, z⟩) fun _ _ _ e => e
      | false =>
        rw [if_neg Bool.false_ne_true] at rp ⊢
        exact .fz ((cap_rep rp.1).mono (fun x z => z.imp id fun q => ⟨j, ek, q⟩) fun _ _ _ e => e) fun _ z => z
    · obtain ⟨l1, h1⟩ := hd (fun x => Z x ∨ Tm ks B x) H
      have hj2 : j - (argD ks ds).length < dvs.length := by rw [← l1]; exact (List.getElem?_eq_some_iff.mp he).1
      have e2 : dvs[j - (argD ks ds).length]? = some dvs[j - (argD ks ds).length] := by simp [hj2]
      refine ⟨dvs[j - (argD ks ds).length], ?_, .fz (h1 _ e _ he e2) fun _ z => z⟩
      have lv : vs.length = (argD ks ds).length := by rw [lA]; exact ar.l1.symm
      rw [List.getElem?_map, List.getElem?_append_right (by omega), lv, e2]
      rfl
  empt := fun _ _ _ z => z
  disj := fun _ _ _ z => z.elim
  zs := fun a z => z.elim (sr.zs a) fun q => (Tm.out ar a q).1
  ss := fun a ⟨j, hk, q⟩ => by
    rcases q with q | q
    · exact sr.ss a q
    · have hj : j < ks.length := (List.getElem?_eq_some_iff.mp hk).1
      have hd : j < ds.length := by rw [← ar.l2]; exact hj
      have hv : j < vs.length := by rw [← ar.l1]; exact hd
      have rp := ar.rep j ds[j] vs[j] true (by simp [hd]) (by simp [hv]) hk
      rw [if_pos rfl] at rp
      exact rp.1.own a q
  nz := fun a ⟨_, z⟩ => z.elim
theorem noOwn0 {x : Addr} : ¬ Own (fun _ => S0) x := fun ⟨_, z⟩ => z
/-- the caller's state behind a call that changes nothing -/
theorem SR.called {Z Z1 Z2 P2 : AS} {S : Nat → AS} {H H2 : Hp} {δ : DS} {σ : St} {FS : Nat → AS} (sr : SR G Z S H δ σ FS) (st : Step H Z1 (Own fun _ => S0) H2 Z2 P2) (h1 : ∀ x, Z x → Z1 x) (h2 : ∀ x, Z1 x → Z x ∨ ((∃ o, H x = some o) ∧ ¬ Own S x ∧ ¬ Own FS x)) (zs : ∀ a, Z2 a → ∃ o, H2 a = some o) : SR G Z2 S H2 δ σ FS where
  len := sr.len
  slot := fun i d e => let ⟨v, ev, rp⟩ := sr.slot i d e; ⟨v, ev, rp.mono (fun x z => st.zin x (h1 x z)) (fun _ z => z) fun a _ o e => st.keep a o e noOwn0⟩
  empt := sr.empt
  disj := sr.disj
  zs := zs
  ss := fun a z => let ⟨o, e⟩ := sr.ss a z; ⟨o, st.keep a o e noOwn0⟩
  nz := fun a z => by
    refine ⟨fun q => ?_, (sr.nz a z).2⟩
    rcases st.znew a q with q | q | q
    · rcases h2 a q with q | q
      · exact (sr.nz a z).1 q
      · exact q.2.2 z
    · exact noOwn0 q
    · obtain ⟨o, e⟩ := sr.own a z; rw [q] at e; cases e
theorem rd_call {F : FD} {ks : List Bool} {qt : Bool} {dds : List D} {dvs : List V} {fa : DS → Option EA} {tr : TA} (hd : Cst G dds dvs) (ha : ∀ σ H Q, rdA G W ks qt fa σ H Q → tr σ H Q) :
    ∀ σ H Q, rdE G W false qt (evCall F ks dds fa) σ H Q → tCallSD (spF G F) dvs (fun σ => WE W σ) tr σ H Q := by
  rintro σ H Q ⟨δ, Z, S, FS, sr, ⟨w, hf⟩, ok, ex⟩
  unfold evCall at hf ok ex
  refine ha σ H _ ⟨δ, Z, S, FS, sr, ?_, fun ds δ' h vs H' Z' FS' B p => ?_, fun x δ' h => ?_⟩
  · cases q : fa δ with
    | none => rw [q] at hf; cases hf
    | some w => exact ⟨w, rfl⟩
  · rw [h] at hf ok ex
    simp only at hf ok ex
    have tm := fun x t => Tm.out p.ar x t
    refine ⟨argD ks ds ++ dds, _, _, _, p.sr.args p.ar hd, ?_, fun d δr hF v H2 Z2 FS2 A p2 => ?_, fun x δr hF c dd H2 Z2 FS2 p2 => ?_⟩
    · cases q : F (argD ks ds ++ dds) with
      | none => rw [q] at hf; cases hf
      | some w => exact ⟨w, rfl⟩
    · rw [hF] at ok
      have vl := p2.vl
      rw [if_neg Bool.false_ne_true] at vl
      have nA : ∀ x, A x → H' x = none := fun x a => (p2.st.pnew x (.inr a)).elim (fun q => (noOwn0 q).elim) id
      refine ok d δ' rfl v H2 Z2 FS' A ⟨p.sr.called p2.st (fun _ z => .inl z) (fun x z => z.imp id fun q => ⟨(tm x q).1, (tm x q).2.2⟩) p2.sr.zs, ?_, ?_, fun q => ?_⟩
      · refine p.st.trans ⟨fun a o e _ => p2.st.keep a o e noOwn0, p2.st.there, fun a z => p2.st.zin a (.inl z), fun a z => ?_, fun a z => z.elim (fun q => .inl (.inl q)) fun q => .inr (nA a q)⟩
        rcases p2.st.znew a z with (z | z) | z | z
        · exact .inl z
        · exact .inr (.inl (.inr z))
        · exact (noOwn0 z).elim
        · exact .inr (.inr z)
      · rw [if_neg Bool.false_ne_true]
        refine ⟨vl.1, fun x a => ⟨(vl.2 x a).1, fun z => ?_, fun z => ?_⟩⟩
        · obtain ⟨o, e⟩ := p.sr.ss x z; rw [nA x a] at e; cases e
        · obtain ⟨o, e⟩ := p.sr.own x z; rw [nA x a] at e; cases e
      · obtain ⟨b, c⟩ := p.qq q
        exact ⟨b, c.trans fun a o e => p2.st.keep a o e noOwn0⟩
    · rw [hF] at ex
      refine ex x δ' rfl c dd H2 Z2 FS' ⟨p.sr.called p2.st (fun _ z => .inl z) (fun x z => z.imp id fun q => ⟨(tm x q).1, (tm x q).2.2⟩) p2.sr.zs, ?_, p2.xr⟩
      refine p.st.trans ⟨fun a o e _ => p2.st.keep a o e noOwn0, p2.st.there, fun a z => p2.st.zin a (.inl z), fun a z => ?_, fun a z => .inl (.inl z)⟩
      rcases p2.st.znew a z with (z | z) | z | z
      · exact .inl z
      · exact .inr (.inl (.inr z))
      · exact (noOwn0 z).elim
      · exact .inr (.inr z)
  · rw [h] at ex
    exact ex x δ' rfl
/-- the callee's slots where the first one is handed over -/
theorem SR.argsM {Z : AS} {S : Nat → AS} {H : Hp} {δ : DS} {σ : St} {FS : Nat → AS} {i : Nat} {d0 : D} {v0 : V} {ks : List Bool} {ds dds : List D} {vs dvs : List V} {B : Nat → AS} (sr : SR G Z S H δ σ FS) (e0 : δ[i]? = some (some d0)) (ev0 : σ[i]? = some (some v0))
    (ar : ArgR G Z (Own S) H FS ks ds vs B) (hc : capOk ks ds = true) (hd : Cst G dds dvs) :
    SR G (fun x => Z x ∨ Tm ks B x) (fun j x => j = 0 ∧ S i x) H ((d0 :: (ds.map cap ++ dds)).map some) ((v0 :: vs ++ dvs).map some) (fun j x => j = 0 ∧ FS i x) where
  len := by
    have := (hd S0 H).1
    have := ar.l1
    simp; omega
  slot := fun j e he => by
    have he := mapsome he
    cases j with
    | zero =>
      simp at he
      subst he
      obtain ⟨v, ev, rp⟩ := sr.slot i d0 e0
      rw [ev0] at ev
      cases ev
      exact ⟨v0, rfl, (rp.mono (fun _ z => .inl z) (fun x z => ⟨rfl, z⟩) fun _ _ _ e => e).congr fun x => ⟨fun q => q.2, fun q => ⟨rfl, q⟩⟩⟩
    | succ j =>
      have he : (ds.map cap ++ dds)[j]? = some e := by simpa using he
      rcases app_some he with ⟨hj, he⟩ | ⟨hj, he⟩
      · have hv : j < vs.length := by rw [← ar.l1]; simpa using hj
        have ev : vs[j]? = some vs[j] := by simp [hv]
        refine ⟨vs[j], ?_, .fz (caps ar hc j e vs[j] he ev) fun x z => by simp at z⟩
        show ((v0 :: (vs ++ dvs)).map some)[j + 1]? = _
        rw [List.map_cons, List.getElem?_cons_succ, List.getElem?_map, List.getElem?_append_left hv, ev]; rfl
      · obtain ⟨l1, h1⟩ := hd (fun x => Z x ∨ Tm ks B x) H
        have hj2 : j - (ds.map cap).length < dvs.length := by rw [← l1]; exact (List.getElem?_eq_some_iff.mp he).1
        have e2 : dvs[j - (ds.map cap).length]? = some dvs[j - (ds.map cap).length] := by simp [hj2]
        refine ⟨dvs[j - (ds.map cap).length], ?_, .fz (h1 _ e _ he e2) fun x z => by simp at z⟩
        have lv : vs.length = (ds.map cap).length := by rw [List.length_map]; exact ar.l1.symm
        show ((v0 :: (vs ++ dvs)).map some)[j + 1]? = _
        rw [List.map_cons, List.getElem?_cons_succ, List.getElem?_map, List.getElem?_append_right (by omega), lv, e2]; rfl
  empt := fun j h x z => by
    obtain ⟨rfl, z⟩ := z
    exact h d0 rfl
  disj := fun j k x z z' => by rw [z.1, z'.1]
  zs := fun a z => z.elim (sr.zs a) fun q => (Tm.out ar a q).1
  ss := fun a ⟨j, _, q⟩ => sr.ss a ⟨i, q⟩
  nz := fun a ⟨j, _, q⟩ => ⟨fun z => z.elim (sr.nz a ⟨i, q⟩).1 fun t => (Tm.out ar a t).2.2.2 ⟨i, q⟩, fun ⟨_, _, z⟩ => (sr.nz a ⟨i, q⟩).2 ⟨i, z⟩⟩
/-- the caller's state behind a call that changes what slot i holds -/
theorem SR.calledM {Z Z1 Z2 : AS} {S : Nat → AS} {H H2 : Hp} {δ δr : DS} {σ σc : St} {FS FS2 : Nat → AS} {i : Nat} {v0 : V} {d0 : D} {P2 : AS} (sr : SR G Z S H δ σ FS) (e0 : δ[i]? = some (some d0)) (ev0 : σ[i]? = some (some v0)) (ec : σc[0]? = some (some v0)) (st : Step H Z1 (Own fun j x => j = 0 ∧ FS i x) H2 Z2 P2) (hP : ∀ x, Own FS2 x → P2 x)
    (h1 : ∀ x, Z x → Z1 x) (h2 : ∀ x, Z1 x → Z x ∨ ((∃ o, H x = some o) ∧ ¬ Own S x ∧ ¬ Own FS x)) (r2 : SR G Z2 (fun j x => j = 0 ∧ S i x) H2 δr σc FS2) :
    SR G Z2 S H2 (δ.set i (hd0 δr)) σ (fun j x => (j = i ∧ FS2 0 x) ∨ (j ≠ i ∧ FS j x)) := by
  have hil : i < δ.length := (List.getElem?_eq_some_iff.mp e0).1
  have new : ∀ x, FS2 0 x → FS i x ∨ H x = none := fun x q => (st.pnew x (hP x ⟨0, q⟩)).imp (fun ⟨_, _, z⟩ => z) id
  have notP : ∀ j x, j ≠ i → FS j x → ¬ Own (fun j x => j = 0 ∧ FS i x) x := fun j x hj q ⟨_, _, z⟩ => hj (sr.disj j i x q z)
  refine ⟨by rw [List.length_set]; exact sr.len, fun j w ew => ?_, fun j h x q => ?_, fun j k x a b => ?_, r2.zs, fun a z => ?_, fun x ⟨j, q⟩ => ?_⟩
  · rcases set_at ew with ⟨hj, ew2⟩ | ⟨hj, ew2⟩
    · subst hj
      have e : δr[0]? = some (some w) := by
        unfold hd0 at ew2
        cases q : δr[0]? with
        | none => rw [q] at ew2; cases ew2
        | some u => rw [q] at ew2; exact congrArg some ew2
      obtain ⟨v, ev, rp⟩ := r2.slot 0 w e
      rw [ec] at ev
      cases ev
      exact ⟨v0, ev0, (rp.mono (fun _ z => z) (fun x z => z.2) fun _ _ _ e => e).congr fun x => ⟨fun q => q.elim (fun z => z.2) fun z => (z.1 rfl).elim, fun q => .inl ⟨rfl, q⟩⟩⟩
    · obtain ⟨v, ev, rp⟩ := sr.slot j w ew2
      refine ⟨v, ev, (rp.mono (fun x z => st.zin x (h1 x z)) (fun _ z => z) fun a z o e => st.keep a o e fun ⟨_, _, q⟩ => ?_).congr fun x => ⟨fun q => q.elim (fun z => (hj z.1).elim) fun z => z.2, fun q => .inr ⟨hj, q⟩⟩⟩
      rcases z with z | z | z
      · exact (sr.nz a ⟨i, q⟩).1 z
      · exact (sr.nz a ⟨i, q⟩).2 ⟨j, z⟩
      · exact hj (sr.disj j i a z q)
  · rcases q with ⟨hj, q⟩ | ⟨hj, q⟩
    · subst hj
      refine r2.empt 0 (fun w ew => h w ?_) x q
      rw [List.getElem?_set_self hil]
      unfold hd0; rw [ew]; rfl
    · refine sr.empt j (fun w ew => h w ?_) x q
      rw [List.getElem?_set_ne (Ne.symm hj)]; exact ew
  · rcases a with ⟨hj, a⟩ | ⟨hj, a⟩ <;> rcases b with ⟨hk, b⟩ | ⟨hk, b⟩
    · rw [hj, hk]
    · rcases new x a with z | z
      · exact (hk (sr.disj k i x b z)).elim
      · obtain ⟨o, e⟩ := sr.own x ⟨k, b⟩; rw [z] at e; cases e
    · rcases new x b with z | z
      · exact (hj (sr.disj j i x a z)).elim
      · obtain ⟨o, e⟩ := sr.own x ⟨j, a⟩; rw [z] at e; cases e
    · exact sr.disj j k x a b
  · obtain ⟨o, e⟩ := sr.ss a z
    exact ⟨o, st.keep a o e fun ⟨_, _, q⟩ => (sr.nz a ⟨i, q⟩).2 z⟩
  · rcases q with ⟨_, q⟩ | ⟨hj, q⟩
    · refine ⟨(r2.nz x ⟨0, q⟩).1, fun z => ?_⟩
      rcases new x q with y | y
      · exact (sr.nz x ⟨i, y⟩).2 z
      · obtain ⟨o, e⟩ := sr.ss x z; rw [y] at e; cases e
    · refine ⟨fun z => ?_, (sr.nz x ⟨j, q⟩).2⟩
      rcases st.znew x z with z | z | z
      · rcases h2 x z with z | z
        · exact (sr.nz x ⟨j, q⟩).1 z
        · exact z.2.2 ⟨j, q⟩
      · exact notP j x hj q z
      · obtain ⟨o, e⟩ := sr.own x ⟨j, q⟩; rw [z] at e; cases e
theorem rd_callM {F : FD} {i : Nat} {ks : List Bool} {qt : Bool} {dds : List D} {dvs : List V} {fr : DS → Option EA} {tr : TA} (hd : Cst G dds dvs) (ha : ∀ σ H Q, rdA G W ks qt fr σ H Q → tr σ H Q) :
    ∀ σ H Q, rdE G W false false (evCallM F i ks dds fr) σ H Q → tCallSD (spF G F) dvs (fun σ => WE W σ) (tCons (tVar i) tr) σ H Q := by
  rintro σ H Q ⟨δ, Z, S, FS, sr, ⟨w, hf⟩, ok, ex⟩
  unfold evCallM at hf ok ex
  cases e : δ[i]? with
  | none => rw [e] at hf; cases hf
  | some q =>
    cases q with
    | none => rw [e] at hf; cases hf
    | some dold =>
      simp only [e] at hf ok ex
      obtain ⟨v0, ev0, _⟩ := sr.slot i dold e
      refine ⟨v0, ev0, ?_⟩
      refine ha σ H _ ⟨δ, Z, S, FS, sr, ?_, fun ds δ' h vs H' Z' FS' B p => ?_, fun x δ' h => ?_⟩
      · cases q : fr δ with
        | none => rw [q] at hf; cases hf
        | some w => exact ⟨w, rfl⟩
      · rw [h] at hf ok ex
        simp only at hf ok ex
        cases e2 : δ'[i]? with
        | none => rw [e2] at hf; cases hf
        | some q2 =>
          cases q2 with
          | none => rw [e2] at hf; cases hf
          | some d0 =>
            simp only [e2] at hf ok ex
            by_cases hc : capOk ks ds = true
            · rw [if_pos hc] at hf ok ex
              have tm := fun x t => Tm.out p.ar x t
              have up : ∀ x, Own (fun j x => j = 0 ∧ FS' i x) x → Own FS' x ∨ Tm ks B x := fun x ⟨_, _, z⟩ => .inl ⟨i, z⟩
              have h2 : ∀ x, (Z' x ∨ Tm ks B x) → Z' x ∨ ((∃ o, H' x = some o) ∧ ¬ Own S x ∧ ¬ Own FS' x) := fun x z => z.imp id fun q => ⟨(tm x q).1, (tm x q).2.2⟩
              have big : ∀ {H2 : Hp} {Z2 P2 : AS} {FS2 : Nat → AS} {A : AS}, Step H' (fun x => Z' x ∨ Tm ks B x) (Own fun j x => j = 0 ∧ FS' i x) H2 Z2 (fun x => Own FS2 x ∨ A x) →
                  Step H' Z' (fun x => Own FS' x ∨ Tm ks B x) H2 Z2 (fun x => Own (fun j x => (j = i ∧ FS2 0 x) ∨ (j ≠ i ∧ FS' j x)) x ∨ A x) := fun {H2 Z2 P2 FS2 A} st => by
                refine ⟨fun a o e n => st.keep a o e fun z => n (up a z), st.there, fun a z => st.zin a (.inl z), fun a z => ?_, fun a z => ?_⟩
                · rcases st.znew a z with (z | z) | z | z
                  · exact .inl z
                  · exact .inr (.inl (.inr z))
                  · exact .inr (.inl (up a z))
                  · exact .inr (.inr z)
                · rcases z with ⟨j, ⟨_, z⟩ | ⟨_, z⟩⟩ | z
                  · exact (st.pnew a (.inl ⟨0, z⟩)).imp (up a) id
                  · exact .inl (.inl ⟨j, z⟩)
                  · exact (st.pnew a (.inr z)).imp (up a) id
              refine ⟨d0 :: (ds.map cap ++ dds), _, _, _, p.sr.argsM e2 ev0 p.ar hc hd, ?_, fun d δr hF v H2 Z2 FS2 A p2 => ?_, fun x δr hF c dd H2 Z2 FS2 p2 => ?_⟩
              · cases q : F (d0 :: (ds.map cap ++ dds)) with
                | none => rw [q] at hf; cases hf
                | some w => exact ⟨w, rfl⟩
              · rw [hF] at ok
                have vl := p2.vl
                rw [if_neg Bool.false_ne_true] at vl
                refine ok d _ rfl v H2 Z2 _ A ⟨p.sr.calledM e2 ev0 rfl p2.st (fun x z => .inl z) (fun _ z => .inl z) h2 p2.sr, p.st.trans (big (P2 := S0) p2.st), ?_, fun q => absurd q Bool.false_ne_true⟩
                rw [if_neg Bool.false_ne_true]
                refine ⟨vl.1, fun x a => ⟨(vl.2 x a).1, fun z => ?_, fun ⟨j, z⟩ => ?_⟩⟩
                · rcases p2.st.pnew x (.inr a) with ⟨_, _, q⟩ | q
                  · exact (p.sr.nz x ⟨i, q⟩).2 z
                  · obtain ⟨o, e⟩ := p.sr.ss x z; rw [q] at e; cases e
                · rcases z with ⟨_, z⟩ | ⟨hj, z⟩
                  · exact (vl.2 x a).2.2 ⟨0, z⟩
                  · rcases p2.st.pnew x (.inr a) with ⟨_, _, q⟩ | q
                    · exact hj (p.sr.disj j i x z q)
                    · obtain ⟨o, e⟩ := p.sr.own x ⟨j, z⟩; rw [q] at e; cases e
              · rw [hF] at ex
                have st2 : Step H' (fun x => Z' x ∨ Tm ks B x) (Own fun j x => j = 0 ∧ FS' i x) H2 Z2 (fun x => Own FS2 x ∨ S0 x) := p2.st.sub fun a z => z.elim id fun q => q.elim
                exact ex x _ rfl c dd H2 Z2 _ ⟨p.sr.calledM e2 ev0 rfl p2.st (fun x z => z) (fun _ z => .inl z) h2 p2.sr, (p.st.trans (big (P2 := S0) st2)).sub fun a z => .inl z, p2.xr⟩
            · rw [if_neg hc] at hf; cases hf
      · rw [h] at ex
        exact ex x δ' rfl
/-- a function's body keeps its promise -/
theorem rd_fn {n np : Nat} {m : Bool} {ev : DS → Option ES} {t : TS} {N : List Str} {vs : List V} {H : Hp} {Q : VK} {E : XK} (hN : N.length = n) (hnp : np ≤ n) (hm : m = true → 0 < np)
    (hs : ∀ D σ H, rdS G (fun c dd _ H => E c dd H) n (if m = true then [0] else []) ev D σ H → t D σ H) (h : spF G (fnOf n np m ev) vs H Q E) : t { nx := fun _ H' => Q .non H', rt := Q } (start N vs) H := by
  obtain ⟨ds, Z, S, FS, sr, ⟨r, hr⟩, ok, ex⟩ := h
  have l1 := fnOf_len hr
  have l2 : ds.length = vs.length := by simpa using sr.len
  have hst : start N vs = vs.map some ++ List.replicate (n - vs.length) none := by rw [← hN]; rfl
  have srs : SR G Z S H (ds.map some ++ List.replicate (n - np) none) (start N vs) FS := by
    rw [hst]
    refine ⟨by simp; omega, fun i d e => ?_, fun i h x z => ?_, sr.disj, sr.zs, sr.ss, sr.nz⟩
    · rcases app_some e with ⟨hi, e⟩ | ⟨hi, e⟩
      · obtain ⟨v, ev, rp⟩ := sr.slot i d e
        have hv : i < (vs.map some).length := by simpa [← l2] using hi
        exact ⟨v, by rw [List.getElem?_append_left hv]; exact ev, rp⟩
      · have := List.getElem?_eq_some_iff.mp e
        obtain ⟨_, q⟩ := this
        simp at q
    · refine sr.empt i (fun d e => h d ?_) x z
      have hi : i < (ds.map some).length := (List.getElem?_eq_some_iff.mp e).1
      rw [List.getElem?_append_left hi]; exact e
  unfold fnOf at hr ok ex
  rw [if_pos l1] at hr ok ex
  -- the state at the end, seen by the caller
  have out : ∀ {δ' : DS} {σ' : St} {H' : Hp} {Z' : AS} {FS' : Nat → AS}, SR G Z' S H' δ' σ' FS' → Pin (if m = true then [0] else []) (start N vs) σ' → SR G Z' S H' (outD np m δ') (vs.map some) (fun j x => (m = true ∧ j = 0) ∧ FS' 0 x) := fun {δ' σ' H' Z' FS'} r p => by
    have rep : ∀ {k : Nat} {j : Nat} {d : D}, (List.replicate k (none : Option D))[j]? = some (some d) → False := fun {k j d} e => by
      obtain ⟨_, q⟩ := List.getElem?_eq_some_iff.mp e
      simp at q
    refine ⟨?_, fun j d e => ?_, fun j h x z => ?_, fun j k x a b => by rw [a.1.2, b.1.2], r.zs, r.ss, fun x ⟨j, z⟩ => r.nz x ⟨0, z.2⟩⟩
    · unfold outD
      cases hm' : m with
      | true => have := hm hm'; simp; omega
      | false => simp; omega
    · unfold outD at e
      cases hm' : m with
      | false => rw [hm', if_neg Bool.false_ne_true] at e; exact (rep e).elim
      | true =>
        rw [hm', if_pos rfl] at e
        cases j with
        | succ j => exact (rep (by simpa using e)).elim
        | zero =>
          simp at e
          have e1 : δ'[0]? = some (some d) := by
            unfold hd0 at e
            cases q : δ'[0]? with
            | none => rw [q] at e; cases e
            | some u => rw [q] at e; exact congrArg some e
          obtain ⟨v, ev, rp⟩ := r.slot 0 d e1
          rw [hm', if_pos rfl] at p
          have := p.2 0 (by simp)
          rw [ev, hst] at this
          have hv : 0 < (vs.map some).length := by have := hm hm'; simp; omega
          rw [List.getElem?_append_left hv] at this
          exact ⟨v, this.symm, rp.congr fun x => ⟨fun q => q.2, fun q => ⟨⟨rfl, rfl⟩, q⟩⟩⟩
    · obtain ⟨⟨hm', rfl⟩, z⟩ := z
      refine r.empt 0 (fun d e => h d ?_) x z
      unfold outD
      rw [if_pos hm']
      show some (hd0 δ') = _
      unfold hd0; rw [e]; rfl
  have own : ∀ {FS' : Nat → AS} x, Own (fun j x => (m = true ∧ j = 0) ∧ FS' 0 x) x → Own FS' x := fun x ⟨_, _, z⟩ => ⟨0, z⟩
  cases q : ev (ds.map some ++ List.replicate (n - np) none) with
  | none => rw [q] at hr; cases hr
  | some w =>
    rw [q] at hr ok ex
    refine hs _ _ H ⟨by rw [hst]; simp; omega, _, Z, S, FS, srs, w, q, ?_⟩
    obtain ⟨o, δo⟩ := w
    cases o with
    | bk => cases hr
    | ct => cases hr
    | nx =>
      refine ⟨fun δ' e' σ' H' Z' FS' p => ?_, fun _ e' => (by cases e'), fun _ e' => (by cases e'), fun _ _ e' => (by cases e'), fun _ _ e' => (by cases e')⟩
      cases e'
      refine ok .non _ rfl .non H' Z' _ S0 ⟨out p.sr p.pn, p.st.sub fun a z => z.elim (own a) fun q => q.elim, ?_, fun q => absurd q Bool.false_ne_true⟩
      rw [if_neg Bool.false_ne_true]
      exact ⟨.fz .non fun _ z => z, fun x z => z.elim⟩
    | rt d =>
      refine ⟨fun _ e' => (by cases e'), fun _ e' => (by cases e'), fun _ e' => (by cases e'), fun d δ' e' v σ' H' Z' FS' A p => ?_, fun _ _ e' => (by cases e')⟩
      cases e'
      refine ok d _ rfl v H' Z' _ A ⟨out p.sr p.pn, p.st.sub fun a z => z.imp (own a) id, ?_, fun q => absurd q Bool.false_ne_true⟩
      rw [if_neg Bool.false_ne_true]
      exact ⟨p.vl.1, fun x a => ⟨(p.vl.2 x a).1, (p.vl.2 x a).2.1, fun z => (p.vl.2 x a).2.2 (own x z)⟩⟩
    | ex x =>
      refine ⟨fun _ e' => (by cases e'), fun _ e' => (by cases e'), fun _ e' => (by cases e'), fun _ _ e' => (by cases e'), fun x δ' e' c dd σ' H' Z' FS' p => ?_⟩
      cases e'
      exact ex x _ rfl c dd H' Z' _ ⟨out p.sr p.pn, p.st.sub fun a z => own a z, p.xr⟩
end
end PD
/-! P, part 12: sorted, sum, max, min, repr, slices. -/
namespace PD
open PySem L2 PyProof.Rows

def leD (a b : D) : Bool := W.dataLe false toP a b
/-- all of one kind, each place, and in an order -/
def tup1 : PyData → Bool
  | .tuple (_ :: _) => true
  | _ => false
def noTup : PyData → Bool
  | .tuple _ => false
  | .none => false
  | _ => true
def sortOk (xs : List D) : Bool := dpL 60 xs && (xs.all fun a => xs.all fun b => W.alike (toP a) (toP b)) && ((xs.all fun a => tup1 (toP a)) || (xs.all fun a => noTup (toP a))) && decide (xs.length ≤ 1000000)
def gSorted : List D → Option D
  | [.lst m xs] => if shal m && sortOk xs then some (.lst .o (xs.mergeSort leD)) else none
  | _ => none
def intsOf : List D → Option (List Int)
  | [] => some []
  | .int i :: r => (intsOf r).map (i :: ·)
  | _ :: _ => none
def gSum : List D → Option D
  | [.lst _ xs] => (intsOf xs).map fun ns => .int ns.sum
  | _ => none
def gMax2 : List D → Option D
  | [.int i, .int j] => some (.int (if j > i then j else i))
  | _ => none
def gMin2 : List D → Option D
  | [.int i, .int j] => some (.int (if j < i then j else i))
  | _ => none
def gRepr : List D → Option D
  | [.bl b] => some (.str (Str.ofString (if b then "True" else "False")))
  | _ => none
section
variable {G : GC} {X : Cx}
theorem intsOf_eq : ∀ {xs : List D} {ns : List Int}, intsOf xs = some ns → xs = ns.map .int
  | [], ns, h => by cases h; rfl
  | .int i :: r, ns, h => by
    rw [intsOf] at h
    cases e : intsOf r with
    | none => rw [e] at h; cases h
    | some m => rw [e] at h; cases h; rw [intsOf_eq e]; rfl
  | .non :: _, _, h => by cases h
  | .bl _ :: _, _, h => by cases h
  | .str _ :: _, _, h => by cases h
  | .tup _ :: _, _, h => by cases h
  | .lst _ _ :: _, _, h => by cases h
  | .dic _ _ :: _, _, h => by cases h
  | .dit _ _ :: _, _, h => by cases h
  | .ins _ _ _ :: _, _, h => by cases h
  | .exc _ _ :: _, _, h => by cases h
theorem ints_V {Z S : AS} {H : Hp} {ns : List Int} {vs : List V} (hl : (ns.map D.int).length = vs.length) (he : ∀ (i : Nat) d w, (ns.map D.int)[i]? = some d → vs[i]? = some w → ∃ B, Rep G Z S H d w B) : vs = ns.map V.int := by
  refine List.ext_getElem? fun i => ?_
  by_cases hi : i < ns.length
  · have h2 : i < vs.length := by rw [← hl]; simpa using hi
    obtain ⟨B, r⟩ := he i (.int ns[i]) vs[i] (by simp [hi]) (by simp [h2])
    have := r.intV
    simp [h2, hi, this]
  · have h2 : ¬ i < vs.length := by rw [← hl]; simpa using hi
    rw [List.getElem?_eq_none (by omega), List.getElem?_eq_none (by simpa using hi)]
theorem ok_sum (h : XO G X) (hc : X.calm = true) : CallOk G X (.builtin "sum") gSum := .of (cr_sum hc) fun xs H Q ⟨Z, S, ds, d, zs, a, e, k⟩ => by
  unfold gSum at e
  split at e
  · rename_i m xs'
    cases q : intsOf xs' with
    | none => rw [q] at e; cases e
    | some ns =>
      rw [q] at e
      cases e
      obtain ⟨_, A, rfl, r1⟩ := argv1 a
      obtain ⟨p, vs, rfl, sq, hl, he, _⟩ := r1.lstV
      rw [← h.K] at sq
      rw [intsOf_eq q] at hl he
      rw [ints_V hl fun i d w e1 e2 => let ⟨B, r, _⟩ := he i d w e1 e2; ⟨B, r⟩] at sq
      exact ⟨p, ns, rfl, sq, k.int⟩
  · cases e
theorem ok_max2 (h : XO G X) (hc : X.calm = true) : CallOk G X (.builtin "max") gMax2 := .of (call_max2 hc) fun xs H Q ⟨Z, S, ds, d, zs, a, e, k⟩ => by
  unfold gMax2 at e
  split at e
  · cases e
    obtain ⟨x', y', A, B, ev, r1, r2⟩ := argv2 a
    cases ev
    rw [r1.intV, r2.intV]
    exact ⟨_, _, rfl, k.int⟩
  · cases e
theorem ok_min2 (h : XO G X) (hc : X.calm = true) : CallOk G X (.builtin "min") gMin2 := .of (call_min2 hc) fun xs H Q ⟨Z, S, ds, d, zs, a, e, k⟩ => by
  unfold gMin2 at e
  split at e
  · cases e
    obtain ⟨x', y', A, B, ev, r1, r2⟩ := argv2 a
    cases ev
    rw [r1.intV, r2.intV]
    exact ⟨_, _, rfl, k.int⟩
  · cases e
theorem ok_repr (h : XO G X) : CallOk G X (.builtin "repr") gRepr := by
  intro pins s σ H xs us Q I rx ⟨Z, S, ds, d, zs, a, e, k⟩
  unfold gRepr at e
  split at e
  · rename_i b
    cases e
    obtain ⟨_, A, rfl, r1⟩ := argv1 a
    rw [r1.blV] at rx
    match us, rx with
    | [u], .cons r .nil =>
      cases r
      refine PySem.P.repr_of_bool ⟨.str _, H, Inv.tok I _, ?_, k.str⟩
      cases b <;> exact ⟨_, rfl⟩
  · cases e
theorem eachIs_of {α β : Type} {R : α → β → Prop} : ∀ {xs : List α} {ys : List β}, xs.length = ys.length → (∀ (i : Nat) x y, xs[i]? = some x → ys[i]? = some y → R x y) → W.EachIs R xs ys
  | [], [], _, _ => .nil
  | x :: xs, y :: ys, hl, h => .cons (h 0 x y rfl rfl) (eachIs_of (by simpa using hl) fun i a b e1 e2 => h (i + 1) a b (by simpa using e1) (by simpa using e2))
  | [], _ :: _, hl, _ => by simp at hl
  | _ :: _, [], hl, _ => by simp at hl
theorem eachIs_vals : ∀ {us : List Value} {bs : List (D × V)}, W.EachIs (fun u b => RelV b.2 u) us bs → Vals (bs.map (·.2)) us
  | _, _, .nil => .nil
  | _, _, .cons r t => .cons r (eachIs_vals t)
theorem zip_at {α β : Type} {xs : List α} {ys : List β} {i : Nat} {p : α × β} (h : (xs.zip ys)[i]? = some p) : xs[i]? = some p.1 ∧ ys[i]? = some p.2 := by
  rw [List.getElem?_zip_eq_some] at h
  exact h
theorem sort_core {pins : List (Addr × Obj)} {σ : L2.St} {H : Hp} {s : Shared} {Z S : AS} {Q : VK} {xs : List D} {vs : List V} {l : Addr} {its : List Value} (h : XO G X) (I : Inv X pins σ H s) (hv : Vals vs its) (hl : xs.length = vs.length) (he : ∀ (i : Nat) d w, xs[i]? = some d → vs[i]? = some w → RepF G Z H d w) (zs : ∀ a, Z a → ∃ o, H a = some o)
    (ho : sortOk xs = true) (k : OkV G Z H (.lst .o (xs.mergeSort leD)) Q) (hL : s.heap.IsList l its.toArray) : wpAny (model X.prog X.w) X.A (call (.builtin "sorted") [.ref l]) (EP X pins σ Q) X.xe s := by
  unfold sortOk at ho
  simp only [Bool.and_eq_true, decide_eq_true_eq] at ho
  obtain ⟨⟨⟨h1, h2⟩, h3⟩, h4⟩ := ho
  rw [dpL_all, List.all_eq_true] at h1
  let bs : List (D × V) := xs.zip vs
  have b1 : bs.map (·.1) = xs := by
    show (xs.zip vs).map Prod.fst = xs
    exact List.map_fst_zip (by omega)
  have b2 : bs.map (·.2) = vs := by
    show (xs.zip vs).map Prod.snd = vs
    exact List.map_snd_zip (by omega)
  have bl : bs.length = xs.length := by rw [← b1, List.length_map]
  have bm : ∀ b ∈ bs, b.1 ∈ xs := fun b hb => by rw [← b1]; exact List.mem_map_of_mem hb
  have brep : ∀ b ∈ bs, RepF G Z H b.1 b.2 := fun b hb => by
    obtain ⟨i, e⟩ := List.mem_iff_getElem?.mp hb
    obtain ⟨e1, e2⟩ := zip_at e
    exact he i b.1 b.2 e1 e2
  have hi : bs.length = its.length := by rw [bl, hl]; exact hv.length
  refine W.sorted_data (β := D × V) (bs := bs) (vs := its) (enc := fun b => toP b.1) (R := fun u b => RelV b.2 u) hL (eachIs_of hi.symm fun i u b e1 e2 => ?_) (eachIs_of hi.symm fun i u b e1 e2 => ?_) ?_ ?_ ?_ ?_ fun out hout eo => ?_
  · obtain ⟨f1, f2⟩ := zip_at e2
    obtain ⟨v, g1, g2⟩ := vals_at hv e1
    rw [f2] at g1; cases g1; exact g2
  · obtain ⟨f1, f2⟩ := zip_at e2
    obtain ⟨v, g1, g2⟩ := vals_at hv e1
    rw [f2] at g1; cases g1
    exact (Rep.fz (S := S) (A := S0) (he i b.1 b.2 f1 f2) fun _ z => z).reads h.K I 60 (h1 _ (List.mem_of_getElem? f1)) g2
  · intro d hd d' hd'
    obtain ⟨b, hb, rfl⟩ := List.mem_map.mp hd
    obtain ⟨b', hb', rfl⟩ := List.mem_map.mp hd'
    rw [List.all_eq_true] at h2
    exact List.all_eq_true.mp (h2 _ (bm b hb)) _ (bm b' hb')
  · rw [Bool.or_eq_true, List.all_eq_true, List.all_eq_true] at h3
    rcases h3 with h3 | h3
    · refine .inl fun d hd => ?_
      obtain ⟨b, hb, rfl⟩ := List.mem_map.mp hd
      have := h3 _ (bm b hb)
      show ∃ x r, toP b.1 = _
      cases q : toP b.1 with
      | tuple l =>
        rw [q] at this
        cases l with
        | nil => simp [tup1] at this
        | cons x r => exact ⟨x, r, rfl⟩
      | _ => rw [q] at this; simp [tup1] at this
    · refine .inr fun d hd => ?_
      obtain ⟨b, hb, rfl⟩ := List.mem_map.mp hd
      have := h3 _ (bm b hb)
      show toP b.1 ≠ _ ∧ _
      cases q : toP b.1 <;> rw [q] at this <;> simp_all [noTup]
  · rw [bl]; exact Nat.le_trans h4 (by decide)
  · intro b hb
    obtain ⟨p1, d1⟩ := dp_plain 60 b.1 (h1 _ (bm b hb))
    have := h.hu
    show X.A.units + 2 + (toP b.1).depth < cLine
    omega
  · obtain ⟨m, ns, _⟩ := I.loc
    obtain ⟨c, _, news, _, keep⟩ := W.sorted_news (h₀ := ({ objs := #[] } : Heap)) (news := []) ⟨ns, fun b o e => by simp [Heap.get?] at e, Nat.zero_le _⟩ (fun p hp => by simp at hp) its out
    have got := (news _ (List.mem_cons_self)).1
    have hle : s.heap.objs.size ≤ s.heap.objs.size + 1 := Nat.le_succ _
    have hnone : H (s.heap.objs.size + 1) = none := I.hok.fresh hle
    have mm : (bs.mergeSort (W.dataLe false fun b => toP b.1)).map (·.1) = xs.mergeSort leD := by
      rw [List.map_mergeSort (r := W.dataLe false fun b : D × V => toP b.1) (s := leD) (f := Prod.fst) fun a _ b _ => rfl, b1]
    have mem : ∀ b ∈ bs.mergeSort (W.dataLe false fun b => toP b.1), b ∈ bs := fun b hb => (List.mergeSort_perm bs _).mem_iff.mp hb
    let ys : List V := (bs.mergeSort (W.dataLe false fun b => toP b.1)).map (·.2)
    have hys : Vals ys out := eachIs_vals eo
    refine ⟨.ref (s.heap.objs.size + 1), upd H (s.heap.objs.size + 1) (.lst ys), Inv.laid I keep hle ?_, rfl, ?_⟩
    · rw [ObjOk.eq_1]
      refine ⟨?_, out, c, hys, got⟩
      have : ys.length = xs.length := by
        show ((bs.mergeSort _).map (·.2)).length = _
        rw [List.length_map, List.length_mergeSort, bl]
      rw [this]; exact Nat.le_trans h4 (by decide)
    · refine k.lst zs ?_ (fun i d w e1 e2 => ?_) hnone
      · rw [← mm, List.length_map]; show _ = ((bs.mergeSort _).map (·.2)).length; rw [List.length_map]
      · rw [← mm] at e1
        obtain ⟨b, f1, rfl⟩ := getMap e1
        obtain ⟨b', f2, rfl⟩ := getMap (show ((bs.mergeSort (W.dataLe false fun b => toP b.1)).map (·.2))[i]? = some w from e2)
        rw [f1] at f2; cases f2
        exact brep b (mem b (List.mem_of_getElem? f1))
theorem ok_sorted (h : XO G X) : CallOk G X (.builtin "sorted") gSorted := by
  intro pins s σ H xs us Q I rx ⟨Z, S, ds, d, zs, a, e, k⟩
  unfold gSorted at e
  split at e
  · split at e
    · rename_i m xs' ho
      rw [Bool.and_eq_true] at ho
      cases e
      obtain ⟨_, A, rfl, r1⟩ := argv1 a
      obtain ⟨p, vs, rfl, sq, hl, _, _, hf⟩ := r1.lstV
      rw [← h.K] at sq
      obtain ⟨its, rv, pl, _⟩ := I.list sq
      match us, rx with
      | [u], .cons r .nil =>
        cases r
        obtain ⟨o, c, g1, g2, _, g3⟩ := pl
        exact sort_core (S := S) h I rv hl (hf ho.1) zs ho.2 k ⟨o, g1, g2, c, g3⟩
    · cases e
  · cases e
end
end PD
/-! P, part 13: lists changed, chains. -/
namespace PD
open PySem L2

/-- name.append(e) -/
def evApp (i : Nat) (f : DS → Option ER) : DS → Option ES := fun δ => match δ[i]? with
  | some (some (.lst _ _)) => match f δ with
    | none => none
    | some (.ex x, δ') => some (.ex x, δ')
    | some (.ok d, δ') => match δ'[i]? with
      | some (some (.lst .o xs)) => if xs.length < 1000000 then some (.nx, δ'.set i (some (.lst .o (xs ++ [cap d])))) else none
      | _ => none
  | _ => none
/-- name[k] = e -/
def evSet (i : Nat) (f fk : DS → Option ER) : DS → Option ES := fun δ => match f δ with
  | none => none
  | some (.ex x, δ') => some (.ex x, δ')
  | some (.ok d, δ') => match δ'[i]? with
    | some (some _) => match fk δ' with
      | none => none
      | some (.ex x, δ2) => some (.ex x, δ2)
      | some (.ok kd, δ2) => match kd, δ2[i]? with
        | .int k, some (some (.lst .o xs)) => match ixN xs.length k with
          | some j => some (.nx, δ2.set i (some (.lst .o (xs.set j (cap d)))))
          | none => none
        | _, _ => none
    | _ => none
/-- a < b < c -/
def evChain (g g' : List D → Option D) (fa fb fc : DS → Option ER) : DS → Option ER := fun δ => match fa δ with
  | none => none
  | some (.ex x, δ1) => some (.ex x, δ1)
  | some (.ok a, δ1) => if !isF a then none else match fb δ1 with
    | none => none
    | some (.ex x, δ2) => some (.ex x, δ2)
    | some (.ok b, δ2) => if !isF b then none else match g [a, b] with
      | some (.bl true) => match fc δ2 with
        | none => none
        | some (.ex x, δ3) => some (.ex x, δ3)
        | some (.ok c, δ3) => if !isF c then none else match g' [b, c] with
          | some (.bl k) => some (.ok (.bl k), δ3)
          | _ => none
      | some (.bl false) => some (.ok (.bl false), δ2)
      | _ => none
section
variable {G : GC} {W : WX} {n : Nat} {pn : List Nat}
/-- what slot i holds is written -/
theorem SR.write {Z : AS} {S : Nat → AS} {H : Hp} {δ : DS} {σ : St} {FS : Nat → AS} {i : Nat} {a : Addr} {o : HO} {v : V} {d' : D} {B : AS} (r : SR G Z S H δ σ FS) (ev : σ[i]? = some (some v)) (ha : FS i a) (hil : i < δ.length) (rp : Rep G Z (S i) (upd H a o) d' v B) (hB : ∀ x, B x → FS i x) :
    SR G Z S (upd H a o) (δ.set i (some d')) σ (fun j x => (j = i ∧ B x) ∨ (j ≠ i ∧ FS j x)) ∧ Step H Z (Own FS) (upd H a o) Z (Own fun j x => (j = i ∧ B x) ∨ (j ≠ i ∧ FS j x)) := by
  have nz := r.nz a ⟨i, ha⟩
  have own : ∀ x, Own (fun j x => (j = i ∧ B x) ∨ (j ≠ i ∧ FS j x)) x → Own FS x := fun x ⟨j, q⟩ => q.elim (fun z => ⟨i, hB x z.2⟩) fun z => ⟨j, z.2⟩
  have there : ∀ x u, H x = some u → ∃ u', upd H a o x = some u' := fun x u e => by
    by_cases h : x = a
    · rw [h]; exact ⟨_, upd_same⟩
    · rw [upd_ne h]; exact ⟨_, e⟩
  refine ⟨⟨by rw [List.length_set]; exact r.len, fun j w ew => ?_, fun j h x q => ?_, fun j k x a b => ?_, fun b z => ?_, fun b z => ?_, fun x z => r.nz x (own x z)⟩, ⟨fun x u e q => ?_, there, fun _ z => z, fun _ z => .inl z, fun x z => .inl (own x z)⟩⟩
  · rcases set_at ew with ⟨hj, ew2⟩ | ⟨hj, ew2⟩
    · cases ew2
      subst hj
      exact ⟨v, ev, rp.congr fun x => ⟨fun q => q.elim (fun z => z.2) fun z => (z.1 rfl).elim, fun q => .inl ⟨rfl, q⟩⟩⟩
    · obtain ⟨u, eu, rp'⟩ := r.slot j w ew2
      refine ⟨u, eu, (rp'.mono (fun _ z => z) (fun _ z => z) fun b z o' e => ?_).congr fun x => ⟨fun q => q.elim (fun z => (hj z.1).elim) fun z => z.2, fun q => .inr ⟨hj, q⟩⟩⟩
      rw [upd_ne]; exact e
      rintro rfl
      rcases z with z | z | z
      · exact nz.1 z
      · exact nz.2 ⟨j, z⟩
      · exact hj (r.disj j i _ z ha)
  · rcases q with ⟨hj, q⟩ | ⟨hj, q⟩
    · subst hj
      exact h d' (by rw [List.getElem?_set_self hil])
    · refine r.empt j (fun w ew => h w ?_) x q
      rw [List.getElem?_set_ne (Ne.symm hj)]; exact ew
  · rcases a with ⟨hj, a⟩ | ⟨hj, a⟩ <;> rcases b with ⟨hk, b⟩ | ⟨hk, b⟩
    · rw [hj, hk]
    · exact (hk (r.disj k i x b (hB x a))).elim
    · exact (hj (r.disj j i x a (hB x b))).elim
    · exact r.disj j k x a b
  · obtain ⟨u, e⟩ := r.zs b z; exact there b u e
  · obtain ⟨u, e⟩ := r.ss b z; exact there b u e
  · rw [upd_ne]; exact e
    rintro rfl
    exact q ⟨i, ha⟩
theorem own_put2 {FS : Nat → AS} {x : Addr} {i : Nat} : True := trivial
/-- an owned list in slot i -/
theorem SR.lstO {Z : AS} {S : Nat → AS} {H : Hp} {δ : DS} {σ : St} {FS : Nat → AS} {i : Nat} {xs : List D} (r : SR G Z S H δ σ FS) (e : δ[i]? = some (some (.lst .o xs))) : ∃ a vs, σ[i]? = some (some (.ref a)) ∧ H a = some (.lst vs) ∧ xs.length = vs.length ∧ (∀ (j : Nat) d w, xs[j]? = some d → vs[j]? = some w → RepF G Z H d w) ∧ ∀ x, FS i x ↔ x = a := by
  obtain ⟨v, ev, rp⟩ := r.slot i _ e
  cases rp with
  | fz h _ => exact absurd (show false = true from frz_of h) Bool.false_ne_true
  | lo h hl he hA => exact ⟨_, _, ev, h, hl, he, hA⟩
theorem rd_app {qt : Bool} {i : Nat} {f : DS → Option ER} {te : TE} (hK : True) (ha : ∀ σ H Q, rdE G W false qt f σ H Q → te σ H Q) : ∀ D σ H, rdS G W n pn (evApp i f) D σ H → tDrop (tBM G.K "list" rAppend (tVar i) (tCons te tNil)) D σ H := by
  rintro D σ H ⟨hn, δ, Z, S, FS, sr, r, hr, w⟩
  unfold evApp at hr
  split at hr
  · rename_i m0 xs0 e0
    obtain ⟨v0, ev0, rp0⟩ := sr.slot i _ e0
    obtain ⟨a0, vs0, rfl, sq0, _⟩ := rp0.lstV
    refine ⟨_, ev0, .inl ⟨rfl, _, sq0⟩, ?_⟩
    refine ha σ H _ ⟨δ, Z, S, FS, sr, ?_, fun d δ' h v H' Z' FS' A p => ?_, fun x δ' h c dd H' Z' FS' p => ?_⟩
    · cases q : f δ with
      | none => rw [q] at hr; cases hr
      | some w => exact ⟨w, rfl⟩
    · rw [h] at hr
      simp only at hr
      split at hr
      · rename_i xs e1
        split at hr
        · rename_i hz
          cases hr
          obtain ⟨rf, srC, stC⟩ := p.cap
          obtain ⟨a, vs, ev, ha', hl, he, hA⟩ := srC.lstO e1
          rw [ev0] at ev
          cases ev
          have nZ := (srC.nz a0 ⟨i, (hA a0).mpr rfl⟩).1
          have hil : i < δ'.length := (List.getElem?_eq_some_iff.mp e1).1
          have keep : ∀ x, (Z' x ∨ A x) → x ≠ a0 := fun x z q => nZ (q ▸ z)
          have rp : Rep G (fun x => Z' x ∨ A x) (S i) (upd H' a0 (.lst (vs ++ [v]))) (.lst .o (xs ++ [cap d])) (.ref a0) (fun x => x = a0) :=
            .lo upd_same (by simp [hl]) (app_at hl (fun j x y e1 e2 => (he j x y e1 e2).mono (fun _ z => z) fun b z o e => by rw [upd_ne (keep b z)]; exact e) fun j x y e1 e2 => by
              cases j with
              | zero =>
                simp at e1 e2
                subst e1 e2
                exact rf.mono (fun _ z => z) fun b z o e => by rw [upd_ne (keep b z)]; exact e
              | succ j => simp at e1) fun _ => Iff.rfl
          obtain ⟨sr2, st2⟩ := srC.write ev0 ((hA a0).mpr rfl) hil rp fun x q => (hA x).mpr q
          refine ⟨a0, vs, v, rfl, rfl, ha', by rw [← hl, sizeLine_eq]; omega, ?_⟩
          exact w.nx _ rfl σ _ _ _ ⟨sr2, stC.trans st2, Pin.refl _ _⟩
        · cases hr
      · cases hr
    · rw [h] at hr; cases hr
      exact w.ex x _ rfl c dd σ H' Z' FS' p.q
  · cases hr
theorem rd_set {q1 q2 vk : Bool} {i : Nat} {f fk : DS → Option ER} {te ti : TE} (ha : ∀ σ H Q, rdE G W false q1 f σ H Q → te σ H Q) (hk : ∀ σ H Q, rdE G W vk q2 fk σ H Q → ti σ H Q) : ∀ D σ H, rdS G W n pn (evSet i f fk) D σ H → tAsg te (L2.gSub (tVar i) ti rSetL) D σ H := by
  rintro D σ H ⟨hn, δ, Z, S, FS, sr, r, hr, w⟩
  unfold evSet at hr
  refine ha σ H _ ⟨δ, Z, S, FS, sr, ?_, fun d δ' h v H' Z' FS' A p => ?_, fun x δ' h c dd H' Z' FS' p => ?_⟩
  · cases q : f δ with
    | none => rw [q] at hr; cases hr
    | some w => exact ⟨w, rfl⟩
  · rw [h] at hr
    simp only at hr
    split at hr
    · rename_i d0 e0
      obtain ⟨rf, srC, stC⟩ := p.cap
      obtain ⟨v0, ev0, _⟩ := srC.slot i _ e0
      refine ⟨v0, ev0, ?_⟩
      refine hk σ H' _ ⟨δ', _, S, FS', srC, ?_, fun kd δ2 h2 kv H2 Z2 FS2 A2 p2 => ?_, fun x δ2 h2 c dd H2 Z2 FS2 p2 => ?_⟩
      · cases q : fk δ' with
        | none => rw [q] at hr; cases hr
        | some w => exact ⟨w, rfl⟩
      · rw [h2] at hr
        simp only at hr
        split at hr
        · rename_i k xs e2
          split at hr
          · rename_i j hj
            cases hr
            have kv' : kv = .int k := by
              have vl := p2.vl
              split at vl
              · exact vl.1.intV
              · exact vl.1.intV
            subst kv'
            obtain ⟨a, vs, ev, ha', hl, he, hA⟩ := p2.sr.lstO e2
            rw [ev0] at ev
            cases ev
            have rf2 : RepF G Z2 H2 (cap d) v := rf.step p2.st fun x z => (srC.nz x z).1
            have nZ := (p2.sr.nz a ⟨i, (hA a).mpr rfl⟩).1
            have hil : i < δ2.length := (List.getElem?_eq_some_iff.mp e2).1
            have keep : ∀ x, Z2 x → x ≠ a := fun x z q => nZ (q ▸ z)
            have rp : Rep G Z2 (S i) (upd H2 a (.lst (vs.set j v))) (.lst .o (xs.set j (cap d))) (.ref a) (fun x => x = a) := by
              refine .lo upd_same (by simp [hl]) (fun l x y e1 e2 => ?_) fun _ => Iff.rfl
              by_cases hlj : l = j
              · subst hlj
                have l1 : l < xs.length := by have := (List.getElem?_eq_some_iff.mp e1).1; simpa using this
                have l2 : l < vs.length := hl ▸ l1
                rw [List.getElem?_set_self l1] at e1
                rw [List.getElem?_set_self l2] at e2
                cases e1; cases e2
                exact rf2.mono (fun _ z => z) fun b z o e => by rw [upd_ne (keep b z)]; exact e
              · rw [List.getElem?_set_ne (Ne.symm hlj)] at e1 e2
                exact (he l x y e1 e2).mono (fun _ z => z) fun b z o e => by rw [upd_ne (keep b z)]; exact e
            obtain ⟨sr2, st2⟩ := p2.sr.write ev0 ((hA a).mpr rfl) hil rp fun x q => (hA x).mpr q
            refine ⟨a, vs, k, j, rfl, rfl, ha', by rw [← hl]; exact hj, ?_⟩
            exact w.nx _ rfl σ _ _ _ ⟨sr2, (stC.trans (p2.st.sub fun x z => .inl z)).trans st2, Pin.refl _ _⟩
          · cases hr
        · cases hr
      · rw [h2] at hr; cases hr
        exact w.ex x _ rfl c dd σ H2 Z2 FS2 ⟨p2.sr, stC.trans p2.st, p2.xr, Pin.refl _ _⟩
    · cases hr
  · rw [h] at hr; cases hr
    exact w.ex x _ rfl c dd σ H' Z' FS' p.q
/-- a frozen value of an expression -/
theorem PostE.fzn {vw qt : Bool} {S : Nat → AS} {σ : St} {H H1 : Hp} {Z Z1 : AS} {FS FS1 : Nat → AS} {δ1 : DS} {d : D} {v : V} {A : AS} (a : PostE G S vw qt σ H Z FS d δ1 v H1 Z1 FS1 A) (h : isF d = true) : RepF G Z1 H1 d v ∧ PostB G S qt σ H Z FS δ1 H1 Z1 FS1 := by
  refine ⟨?_, a.b⟩
  have vl := a.vl
  split at vl
  · exact (vl.1.frozen h).1
  · exact (vl.1.frozen h).1
def Snd2 (G : GC) (g : List D → Option D) (r : R2) : Prop := ∀ Z S H ds x y d Q, (∀ a, Z a → ∃ o, H a = some o) → ArgV G Z S H ds [x, y] → g ds = some d → OkV G Z H d Q → r x y H Q
theorem isF_of {b : Bool} (h : ¬ (!b) = true) : b = true := by cases b with | true => rfl | false => exact absurd rfl h
theorem rd_chain {v1 v2 v3 q1 q2 q3 : Bool} {g g' : List D → Option D} {r r' : R2} {fa fb fc : DS → Option ER} {ta tb tc : TE} (h1 : Snd2 G g r) (h2 : Snd2 G g' r') (ha : ∀ σ H Q, rdE G W v1 q1 fa σ H Q → ta σ H Q) (hb : ∀ σ H Q, rdE G W v2 q2 fb σ H Q → tb σ H Q) (hc : ∀ σ H Q, rdE G W v3 q3 fc σ H Q → tc σ H Q) :
    ∀ σ H Q, rdE G W false false (evChain g g' fa fb fc) σ H Q → tChain r r' ta tb tc σ H Q := by
  rintro σ H Q ⟨δ, Z, S, FS, sr, ⟨w, hf⟩, ok, ex⟩
  unfold evChain at hf ok ex
  have av : ∀ {Z S : AS} {H : Hp} {a b : D} {x y : V}, RepF G Z H a x → RepF G Z H b y → ArgV G Z S H [a, b] [x, y] := fun {Z S H a b x y} p q => ⟨rfl, fun j d v e1 e2 => by
    match j with
    | 0 => simp at e1 e2; subst e1 e2; exact ⟨S0, .fz p fun _ z => z⟩
    | 1 => simp at e1 e2; subst e1 e2; exact ⟨S0, .fz q fun _ z => z⟩
    | j + 2 => simp at e1⟩
  refine ha σ H _ ⟨δ, Z, S, FS, sr, ?_, fun a δ1 e1 x H1 Z1 FS1 A1 p1 => ?_, fun x δ1 e1 => ?_⟩
  · cases q : fa δ with
    | none => rw [q] at hf; cases hf
    | some w => exact ⟨w, rfl⟩
  · rw [e1] at hf ok ex
    simp only at hf ok ex
    by_cases c1 : (!isF a) = true
    · rw [if_pos c1] at hf; cases hf
    · rw [if_neg c1] at hf ok ex
      obtain ⟨ra, b1⟩ := p1.fzn (isF_of c1)
      refine hb σ H1 _ ⟨δ1, Z1, S, FS1, b1.sr, ?_, fun b δ2 e2 y H2 Z2 FS2 A2 p2 => ?_, fun x δ2 e2 => ?_⟩
      · cases q : fb δ1 with
        | none => rw [q] at hf; cases hf
        | some w => exact ⟨w, rfl⟩
      · rw [e2] at hf ok ex
        simp only at hf ok ex
        by_cases c2 : (!isF b) = true
        · rw [if_pos c2] at hf; cases hf
        · rw [if_neg c2] at hf ok ex
          obtain ⟨rb, b2⟩ := p2.fzn (isF_of c2)
          have ra2 := ra.step b2.st fun x z => (b1.sr.nz x z).1
          cases eg : g [a, b] with
          | none => rw [eg] at hf; cases hf
          | some d =>
            rw [eg] at hf ok ex
            refine (h1 Z2 S0 H2 [a, b] x y d (fun z H3 => ∃ k, z = V.bl k ∧ if k = true then tc σ H3 fun w' H4 => r' y w' H4 Q else Q (V.bl false) H3) b2.sr.zs (av ra2 rb) eg ?_)
            · intro z H3 Z3 A3 sm zi zn rp fr
              match d, hf, ok, ex, rp with
              | .bl false, hf, ok, ex, rp =>
                rw [rp.blV]
                refine ⟨false, rfl, ?_⟩
                rw [if_neg Bool.false_ne_true]
                have b3 : PostB G S false σ H Z FS δ2 H3 Z3 FS2 := ⟨b2.sr.grow sm zi zn, (b1.st.trans b2.st).trans ⟨fun a o e _ => sm a o e, fun a o e => ⟨o, sm a o e⟩, zi, fun a z => (zn a z).imp id fun q => .inr q.1, fun a z => .inl z⟩, fun q => absurd q Bool.false_ne_true⟩
                exact ok _ _ rfl _ H3 Z3 FS2 S0 (b3.bl false)
              | .bl true, hf, ok, ex, rp =>
                rw [rp.blV]
                refine ⟨true, rfl, ?_⟩
                rw [if_pos rfl]
                simp only at hf ok ex
                have b3 : PostB G S false σ H Z FS δ2 H3 Z3 FS2 := ⟨b2.sr.grow sm zi zn, (b1.st.trans b2.st).trans ⟨fun a o e _ => sm a o e, fun a o e => ⟨o, sm a o e⟩, zi, fun a z => (zn a z).imp id fun q => .inr q.1, fun a z => .inl z⟩, fun q => absurd q Bool.false_ne_true⟩
                have rb3 : RepF G Z3 H3 b y := rb.mono zi fun a _ o e => sm a o e
                refine hc σ H3 _ ⟨δ2, Z3, S, FS2, b3.sr, ?_, fun c δ3 e3 w' H4 Z4 FS4 A4 p4 => ?_, fun x δ3 e3 c dd H4 Z4 FS4 p4 => ?_⟩
                · cases q : fc δ2 with
                  | none => rw [q] at hf; cases hf
                  | some w => exact ⟨w, rfl⟩
                · rw [e3] at hf ok
                  simp only at hf ok
                  by_cases c3 : (!isF c) = true
                  · rw [if_pos c3] at hf; cases hf
                  · rw [if_neg c3] at hf ok
                    obtain ⟨rc, b4⟩ := p4.fzn (isF_of c3)
                    have rb4 := rb3.step b4.st fun x z => (b3.sr.nz x z).1
                    cases eg2 : g' [b, c] with
                    | none => rw [eg2] at hf; cases hf
                    | some d2 =>
                      rw [eg2] at hf ok
                      have h := h2 Z4 S0 H4 [b, c] y w' d2 Q b4.sr.zs (av rb4 rc) eg2 (by
                        intro z H5 Z5 A5 sm zi zn rp fr
                        match d2, hf, ok, rp with
                        | .bl k, hf, ok, rp =>
                          rw [rp.blV]
                          have b5 : PostB G S false σ H Z FS δ3 H5 Z5 FS4 := ⟨b4.sr.grow sm zi zn, (b3.st.trans b4.st).trans ⟨fun a o e _ => sm a o e, fun a o e => ⟨o, sm a o e⟩, zi, fun a z => (zn a z).imp id fun q => .inr q.1, fun a z => .inl z⟩, fun q => absurd q Bool.false_ne_true⟩
                          exact ok _ _ rfl _ H5 Z5 FS4 S0 (b5.bl k))
                      exact h
                · rw [e3] at ex
                  exact ex x δ3 rfl c dd H4 Z4 FS4 ⟨p4.sr, b3.st.trans p4.st, p4.xr⟩
      · rw [e2] at ex
        exact fun c dd H2 Z2 FS2 p2 => ex x δ2 rfl c dd H2 Z2 FS2 (b1.thenX p2)
  · rw [e1] at ex
    exact ex x δ1 rfl
end
end PD
/-! P, part 14: the rules of P, construct by construct. -/
namespace PD
open PySem L2

/-- the world that a walk is in -/
structure En where
  P : Program
  w : World
  K : PySem.W.Frag
  mg : Str → Option Value
  base : Heap
/-- a place: names, level, scope -/
structure Pl where
  N : List Str
  k : Nat
  sc : Scope
  fn : Str → Bool
  /-- in an except suite -/
  hot : Bool
  /-- in a comprehension -/
  inb : Bool
structure At (E : En) (p : Pl) (X : Cx) : Prop where
  prog : X.prog = E.P
  w : X.w = E.w
  K : X.K = E.K
  mg : X.mg = E.mg
  base : X.base = E.base
  N : X.N = p.N
  un : X.A.units + 200 < cLine
  room : p.hot = false → Room p.k X.A
  calm : p.hot = false → X.calm = true
  sc : X.env.scope = p.sc
  fn : X.fn = p.fn
  stk : p.inb = false → X.stack = X.env :: X.outer ∧ X.env.frame = some X.env.locals
def Pl.blk (p : Pl) (scope : Scope) : Pl := ⟨p.N, p.k, relS scope p.sc, fun x => scope.names.lookup x == some .cell, p.hot, true⟩
theorem At.blk {E : En} {p : Pl} {X : Cx} (h : At E p X) (s : Shared) (H : Hp) (scope : Scope) (C : Addr) (cl : List (Str × Addr)) (fp : List Addr) : At E (p.blk scope) (Cx.blk X s H scope (compEnvC scope cl C X.env) fp) :=
  ⟨h.prog, h.w, h.K, h.mg, h.base, h.N, h.un, h.room, h.calm, by show relabel scope X.env = relS scope p.sc; rw [← h.sc]; rfl, rfl, fun z => Bool.noConfusion z⟩
theorem At.xo {E : En} {G : GC} {p : Pl} {X : Cx} (h : At E p X) (hG : G.K = E.K) : XO G X :=
  ⟨h.K.trans hG.symm, h.un⟩
theorem takes_w0 {X : Cx} : Takes X W0 := fun u s' ⟨_, _, _, _, _, _, _, _, _, _, _, _, _, _, _, _, h⟩ => h.elim

section
variable (E : En) (G : GC) (p : Pl)
def JE (vw qt : Bool) (e : Expr) (f : DS → Option ER) : Prop := ∀ X W, At E p X → Takes X W → PE X e (rdE G W vw qt f)
def JA (ks : List Bool) (qt : Bool) (es : List Expr) (f : DS → Option EA) : Prop := ∀ X W, At E p X → Takes X W → PA X es (rdA G W ks qt f)
def JT (qt : Bool) (e : Expr) (f : DS → Option EB) : Prop := ∀ X W, At E p X → Takes X W → PT X e (rdT G W qt f)
def JTs (qt : Bool) (es : List Expr) (f : DS → Option EB) : Prop := ∀ X W, At E p X → Takes X W → PTs X es (rdT G W qt f)
def JW (qt : Bool) (e : Expr) (f : DS → Option EB) : Prop := ∀ X W, At E p X → Takes X W → PW X e (rdT G W qt f)
def JI (qt : Bool) (tg e : Expr) (f : DS → Option EI) : Prop := ∀ X W, At E p X → Takes X W → PI X tg e (rdI G W qt f)
def JTg (n : Nat) (pn : List Nat) (e : Expr) (tg : D → DS → Option DS) : Prop := ∃ g, TgOk G n pn tg g ∧ ∀ X, At E p X → PG X e g
def JS (n : Nat) (pn : List Nat) (st : Stmt) (f : DS → Option ES) : Prop := ∀ X W, At E p X → Takes X W → PassesOwn (model X.prog X.w) X.A X.env X.xe → PS X st (rdS G W n pn f)
def JSs (n : Nat) (pn : List Nat) (st : List Stmt) (f : DS → Option ES) : Prop := ∀ X W, At E p X → Takes X W → PassesOwn (model X.prog X.w) X.A X.env X.xe → PSs X st (rdS G W n pn f)
end
/-- a def that may be called by name -/
def Fd (E : En) (G : GC) (x : Str) (k : Nat) (F : FD) (dds : List D) : Prop :=
  ∃ f fd ps ds dvs, FnOk E.P E.w E.K E.mg E.base (CX E.P E.w) k f fd ps (spF G F) ∧ E.mg x = some (.ref f) ∧ PySem.W.keepIn E.K (.ref f) = true ∧ Binds E.K fd ps ds ∧ Vals dvs ds ∧ Cst G dds dvs

theorem PTs.mono {X : Cx} {e : List Expr} {t t' : TT} (h : PTs X e t) (m : ∀ σ H Q, t' σ H Q → t σ H Q) : PTs X e t' := ⟨fun pins s σ H Q I q => h.run pins s σ H Q I (m σ H Q q)⟩
theorem PW.mono {X : Cx} {e : Expr} {t t' : TT} (h : PW X e t) (m : ∀ σ H Q, t' σ H Q → t σ H Q) : PW X e t' := ⟨fun whole pins s σ H Q I q => h.run whole pins s σ H Q I (m σ H Q q)⟩
theorem PI.mono {X : Cx} {tg e : Expr} {t t' : TI} (h : PI X tg e t) (m : ∀ σ H Q, t' σ H Q → t σ H Q) : PI X tg e t' := ⟨fun pins s σ H Q I q => h.run pins s σ H Q I (m σ H Q q)⟩
theorem PE.monoL {X : Cx} {e : Expr} {t t' : TE} (h : PE X e t) (m : ∀ σ H Q, σ.length = X.N.length → t' σ H Q → t σ H Q) : PE X e t' := ⟨fun pins s σ H Q I q => h.run pins s σ H Q I (m σ H Q I.len q)⟩

/-! ### checks of places -/
def nmOk (p : Pl) (i : Nat) (x : Str) : Bool := decide (p.N[i]? = some x) && (decide (p.sc.names.lookup x = some .local) || decide (p.sc.names.lookup x = some .cell) || decide (p.sc.names.lookup x = some .free)) && !(x == Str.ofString "__debug__") && !(x == Str.ofString "__classdict__")
def stOk (p : Pl) (i : Nat) (x : Str) : Bool := decide (p.N[i]? = some x) && ((decide (p.sc.names.lookup x = some .cell) && p.fn x) || decide (p.sc.names.lookup x = some .local))
def glOk (p : Pl) (x : Str) : Bool := decide (p.sc.names.lookup x = some .globalImplicit) && !(x == Str.ofString "__debug__") && !(x == Str.ofString "__name__")
section
variable {E : En} {G : GC} {p : Pl} {X : Cx} {n : Nat} {pn : List Nat}
theorem nmOk.get {i : Nat} {x : Str} (h : nmOk p i x = true) : p.N[i]? = some x ∧ Vis p.sc x ∧ (x == Str.ofString "__debug__") = false ∧ (x == Str.ofString "__classdict__") = false := by
  unfold nmOk at h
  simp only [Bool.and_eq_true, Bool.or_eq_true, decide_eq_true_eq, Bool.not_eq_true'] at h
  exact ⟨h.1.1.1, h.1.1.2.elim (fun z => z.elim .inl fun q => .inr (.inl q)) fun q => .inr (.inr q), h.1.2, h.2⟩
theorem at_pe {i : Nat} {x : Str} {pos : Pos} (h : nmOk p i x = true) (hA : At E p X) : PE X (.Name x pos) (tVar i) := by
  obtain ⟨h1, h2, h3, h4⟩ := nmOk.get h
  exact pe_var (by rw [hA.N]; exact h1) (by rw [hA.sc]; exact h2) h3 h4
theorem at_gl {x : Str} (h : glOk p x = true) (hA : At E p X) : Gl X x ∧ (x == Str.ofString "__debug__") = false ∧ x ≠ Str.ofString "__name__" := by
  unfold glOk at h
  simp only [Bool.and_eq_true, decide_eq_true_eq, Bool.not_eq_true'] at h
  refine ⟨?_, h.1.2, fun e => ?_⟩
  · show X.env.scope.names.lookup x = _
    rw [hA.sc]; exact h.1.1
  · have := h.2; rw [e] at this; simp at this
/-! ### expressions -/
theorem j_var {i : Nat} {x : Str} {pos : Pos} (h : nmOk p i x = true) : JE E G p true true (.Name x pos) (evVar i) := fun X W hA _ => PE.mono (at_pe h hA) rd_var
theorem j_fv {i : Nat} {x : Str} {pos : Pos} (h : nmOk p i x = true) : JE E G p false false (.Name x pos) (evFv i) := fun X W hA _ => PE.mono (at_pe h hA) rd_fv
theorem j_mv {i : Nat} {x : Str} {pos : Pos} (h : nmOk p i x = true) : JE E G p false false (.Name x pos) (evMv i) := fun X W hA _ => PE.mono (at_pe h hA) rd_mv
theorem j_int {i : Int} {j : Nat} {pos : Pos} : JE E G p false true (.Constant (.int i) j pos) (evCst (.int i)) := fun X W hA _ => PE.mono pe_int (rd_cst fun _ _ => .int i)
theorem j_str {z : Str} {j : Nat} {pos : Pos} : JE E G p false true (.Constant (.str z) j pos) (evCst (.str z)) := fun X W hA _ => PE.mono pe_str (rd_cst fun _ _ => .str z)
theorem j_bl {b : Bool} {j : Nat} {pos : Pos} : JE E G p false true (.Constant (.bool b) j pos) (evCst (.bl b)) := fun X W hA _ => PE.mono pe_bl (rd_cst fun _ _ => .bl b)
theorem j_non {j : Nat} {pos : Pos} : JE E G p false true (.Constant .none j pos) (evCst .non) := fun X W hA _ => PE.mono pe_non (rd_cst fun _ _ => .non)
/-- a scalar of the top -/
theorem j_glob {x : Str} {v : V} {d : D} {u : Value} {pos : Pos} (h : glOk p x = true) (hm : E.mg x = some u) (hr : RelV v u) (hd : ∀ Z H, RepF G Z H d v) : JE E G p false true (.Name x pos) (evCst d) := fun X W hA _ =>
  let ⟨g, g2, _⟩ := at_gl h hA
  PE.mono (pe_glob g (by rw [hA.mg]; exact hm) hr g2) (rd_cst hd)
theorem j_nil : JA E G p [] true [] evNil := fun X W hA _ => PA.mono pa_nil rd_nil
abbrev StarNo (e : Expr) (es : List Expr) : Prop := ∀ env, starEach (e :: es) env = (false, eval e env) :: starEach es env
theorem j_cons {vw qa qr : Bool} {ks : List Bool} {e : Expr} {es : List Expr} {fa : DS → Option ER} {fr : DS → Option EA} (ha : JE E G p vw qa e fa) (hr : JA E G p ks qr es fr) (hv : vw = true → qa = true := by decide) (hs : StarNo e es := by exact fun _ => rfl) :
    JA E G p (vw :: ks) (qa && qr) (e :: es) (evCons vw qr fa fr) := fun X W hA hT => PA.mono (pa_cons (ha X W hA hT) (hr X W hA hT) (hs _)) (rd_cons (fun _ _ _ h => h) (fun _ _ _ h => h) hv)
/-- an argument that is a name -/
theorem j_dfr {i : Nat} {x : Str} {pos : Pos} {qr : Bool} {ks : List Bool} {es : List Expr} {fr : DS → Option EA} (h : nmOk p i x = true) (hr : JA E G p ks qr es fr) (hs : StarNo (.Name x pos) es := by exact fun _ => rfl) :
    JA E G p (true :: ks) qr (.Name x pos :: es) (evDefer i fr) := fun X W hA hT => PA.mono (pa_cons (at_pe h hA) (hr X W hA hT) (hs _)) (rd_defer fun _ _ _ h => h)
theorem tOp_of {r : List V → Hp → VK → Prop} {ta tb : TE} {σ : St} {H : Hp} {Q : VK} (h : tCons ta (tCons tb tNil) σ H fun vs H1 => r vs H1 Q) : tOp (fun x y H Q => r [x, y] H Q) ta tb σ H Q := h
/-- two operands: how they are read -/
inductive J2 (E : En) (G : GC) (p : Pl) : List Bool → Bool → Expr → Expr → (DS → Option EA) → Prop
  | cc {v1 q1 v2 q2 : Bool} {a b : Expr} {fa fb : DS → Option ER} (ha : JE E G p v1 q1 a fa) (hb : JE E G p v2 q2 b fb) (h1 : v1 = true → q1 = true) (h2 : v2 = true → q2 = true) : J2 E G p [v1, v2] (q1 && (q2 && true)) a b (evCons v1 (q2 && true) fa (evCons v2 true fb evNil))
  | dc {i : Nat} {x : Str} {pos : Pos} {v2 q2 : Bool} {b : Expr} {fb : DS → Option ER} (h : nmOk p i x = true) (hb : JE E G p v2 q2 b fb) (h2 : v2 = true → q2 = true) : J2 E G p [true, v2] (q2 && true) (.Name x pos) b (evDefer i (evCons v2 true fb evNil))
theorem J2.go {ks : List Bool} {qt : Bool} {a b : Expr} {fa : DS → Option EA} (h : J2 E G p ks qt a b fa) {W : WX} (hA : At E p X) (hT : Takes X W) : ∃ ta tb, PE X a ta ∧ PE X b tb ∧ ∀ σ H Q, rdA G W ks qt fa σ H Q → tCons ta (tCons tb tNil) σ H Q := by
  cases h with
  | cc ha hb h1 h2 => exact ⟨_, _, ha X W hA hT, hb X W hA hT, rd_cons (fun _ _ _ h => h) (rd_cons (fun _ _ _ h => h) rd_nil h2) h1⟩
  | dc h hb h2 => exact ⟨_, _, at_pe h hA, hb X W hA hT, rd_defer (rd_cons (fun _ _ _ h => h) rd_nil h2)⟩
theorem j_bin {ks : List Bool} {qt : Bool} {op : Operator} {a b : Expr} {pos : Pos} {g : List D → Option D} {fa : DS → Option EA} (hG : G.K = E.K) (ho : ∀ {X}, XO G X → BinOk G X (binaryOp op) g) (ha : J2 E G p ks qt a b fa) : JE E G p false qt (.BinOp a op b pos) (evOp g fa) := fun X W hA hT =>
  let ⟨_, _, h1, h2, h3⟩ := ha.go hA hT
  PE.mono (pe_op (ho (hA.xo hG)) h1 h2) fun σ H Q h => rd_op (snd_of G g) h3 σ H Q h
theorem j_cmp {ks : List Bool} {qt : Bool} {op : CmpOp} {a b : Expr} {pos : Pos} {g : List D → Option D} {fa : DS → Option EA} (hG : G.K = E.K) (ho : ∀ {X}, XO G X → BinOk G X (compareOp op) g) (ha : J2 E G p ks qt a b fa) (hm : behindInMarks op b = false := by rfl) : JE E G p false qt (.Compare a [op] [b] pos) (evOp g fa) := fun X W hA hT =>
  let ⟨_, _, h1, h2, h3⟩ := ha.go hA hT
  PE.mono (pe_cmpR (ho (hA.xo hG)) h1 h2 hm) fun σ H Q h => rd_op (snd_of G g) h3 σ H Q h
theorem j_ix {ks : List Bool} {qt : Bool} {a b : Expr} {pos : Pos} {g : List D → Option D} {fa : DS → Option EA} (hG : G.K = E.K) (ho : ∀ {X}, XO G X → IxOk G X g) (ha : J2 E G p ks qt a b fa) (hp : PlainIx b := by exact fun _ _ => rfl) : JE E G p false qt (.Subscript a b pos) (evOp g fa) := fun X W hA hT =>
  let ⟨_, _, h1, h2, h3⟩ := ha.go hA hT
  PE.mono (pe_ix (ho (hA.xo hG)) h1 h2 hp) fun σ H Q h => rd_op (snd_of G g) h3 σ H Q h
theorem j_un {v1 q1 : Bool} {op : UnaryOp} {a : Expr} {pos : Pos} {g : List D → Option D} {fa : DS → Option ER} (hG : G.K = E.K) (ho : ∀ {X}, XO G X → UnOk G X (unaryOp op) g) (ha : JE E G p v1 q1 a fa) (hv : v1 = true → q1 = true := by decide) : JE E G p false (q1 && true) (.UnaryOp op a pos) (evOp g (evCons v1 true fa evNil)) := fun X W hA hT =>
  PE.mono (pe_un (ho (hA.xo hG)) (ha X W hA hT)) fun σ H Q h => rd_op (snd_of G g) (rd_cons (fun _ _ _ h => h) rd_nil hv) σ H Q h
theorem snd2 {g : List D → Option D} : Snd2 G g (fun x y H Q => rOf G g [x, y] H Q) := fun Z S H ds x y d Q zs a e k => ⟨Z, S, ds, d, zs, a, e, k⟩
end
end PD
/-! P, part 15: the rules of P, construct by construct, continued. -/
namespace PD
open PySem L2

def evYes : DS → Option EB := fun δ => some (.ok true, δ)
section
variable {E : En} {G : GC} {p : Pl} {X : Cx} {n : Nat} {pn : List Nat}
theorem j_opq {vw qt : Bool} {e : Expr} {f : DS → Option ER} (h : JE E G p vw qt e f) : JE E G p false qt e (evOpq vw f) := fun X W hA hT => PE.mono (h X W hA hT) (rd_opq fun _ _ _ h => h)
theorem j_tup {ks : List Bool} {qt : Bool} {es : List Expr} {x1 : Nat} {pos : Pos} {fa : DS → Option EA} (h : JA E G p ks qt es fa) : JE E G p false qt (.Tuple es x1 pos) (evTup ks fa) := fun X W hA hT => PE.mono (pe_tup (h X W hA hT)) (rd_tup fun _ _ _ h => h)
theorem j_lst {ks : List Bool} {qt : Bool} {es : List Expr} {pos : Pos} {fa : DS → Option EA} (h : JA E G p ks qt es fa) : JE E G p false qt (.List es pos) (evLst ks fa) := fun X W hA hT => PE.mono (pe_lst (h X W hA hT)) (rd_lst fun _ _ _ h => h)
abbrev NoStar (es : List Expr) : Prop := ∀ (env : Env) (pos : Pos), ((backTo pos (starEach es env)).any fun x => x.1) = false
/-- a built-in function, a built-in type -/
theorem j_bi {ks : List Bool} {qt : Bool} {x : Str} {q pos : Pos} {e : Expr} {es : List Expr} {id : String} {g : List D → Option D} {fa : DS → Option EA} (hG : G.K = E.K) (ho : ∀ {X}, XO G X → CallOk G X (.builtin id) g) (hg : glOk p x = true) (hm : E.mg x = none) (hb : bootBuiltins x = some (.builtin id))
    (ha : JA E G p ks qt (e :: es) fa) (hs : StarNo e es := by exact fun _ => rfl) (hs2 : NoStar es := by exact fun _ _ => rfl) : JE E G p false qt (.Call (.Name x q) (e :: es) [] pos) (evOp g fa) := fun X W hA hT =>
  let ⟨g1, g2, g3⟩ := at_gl hg hA
  PE.mono (pe_callB (ho (hA.xo hG)) g1 (by rw [hA.mg]; exact hm) hb (ha X W hA hT) g3 g2 (hs _) (hs2 _ _)) fun σ H Q h => rd_op (snd_of G g) (fun _ _ _ h => h) σ H Q h
theorem j_biC {ks : List Bool} {qt : Bool} {x : Str} {q pos : Pos} {e : Expr} {es : List Expr} {id : String} {g : List D → Option D} {fa : DS → Option EA} (hG : G.K = E.K) (ho : ∀ {X}, XO G X → X.calm = true → CallOk G X (.builtin id) g) (hg : glOk p x = true) (hm : E.mg x = none) (hb : bootBuiltins x = some (.builtin id))
    (ha : JA E G p ks qt (e :: es) fa) (hh : p.hot = false := by rfl) (hs : StarNo e es := by exact fun _ => rfl) (hs2 : NoStar es := by exact fun _ _ => rfl) : JE E G p false qt (.Call (.Name x q) (e :: es) [] pos) (evOp g fa) := fun X W hA hT =>
  let ⟨g1, g2, g3⟩ := at_gl hg hA
  PE.mono (pe_callB (ho (hA.xo hG) (hA.calm hh)) g1 (by rw [hA.mg]; exact hm) hb (ha X W hA hT) g3 g2 (hs _) (hs2 _ _)) fun σ H Q h => rd_op (snd_of G g) (fun _ _ _ h => h) σ H Q h
theorem j_ty {ks : List Bool} {qt : Bool} {x : Str} {q pos : Pos} {e : Expr} {es : List Expr} {id : String} {g : List D → Option D} {fa : DS → Option EA} (hG : G.K = E.K) (ho : ∀ {X}, XO G X → CallOk G X (.type id) g) (hg : glOk p x = true) (hm : E.mg x = none) (hb : bootBuiltins x = some (.type id))
    (ha : JA E G p ks qt (e :: es) fa) (hs : StarNo e es := by exact fun _ => rfl) (hs2 : NoStar es := by exact fun _ _ => rfl) : JE E G p false qt (.Call (.Name x q) (e :: es) [] pos) (evOp g fa) := fun X W hA hT =>
  let ⟨g1, g2, g3⟩ := at_gl hg hA
  PE.mono (pe_callTy (ho (hA.xo hG)) g1 (by rw [hA.mg]; exact hm) hb (ha X W hA hT) g3 g2 (hs _) (hs2 _ _)) fun σ H Q h => rd_op (snd_of G g) (fun _ _ _ h => h) σ H Q h
/-- an own function -/
theorem at_call {x : Str} {k : Nat} {F : FD} {dds : List D} {q pos : Pos} {e : Expr} {es : List Expr} {W : WX} {t : TA} (c : Fd E G x k F dds) (hk : k ≤ p.k) (hg : glOk p x = true) (hA : At E p X) (hT : Takes X W) (hh : p.hot = false) (hs : StarNo e es) (hs2 : NoStar es) (ha : PA X (e :: es) t) :
    ∃ dvs, Cst G dds dvs ∧ PE X (.Call (.Name x q) (e :: es) [] pos) (tCallSD (spF G F) dvs (fun σ => WE W σ) t) := by
  obtain ⟨f, fd, ps, ds, dvs, h1, h2, h3, h4, h5, h6⟩ := c
  obtain ⟨g1, g2, g3⟩ := at_gl hg hA
  obtain ⟨eP, ew, eK, emg, eb, _, _, hr, _, _, _, _⟩ := hA
  have hr := hr hh
  rw [← eP, ← ew, ← eK, ← emg, ← eb] at h1
  rw [← emg] at h2
  rw [← eK] at h3 h4
  exact ⟨dvs, h6, pe_callSD h1 (hr.mono hk) g1 h2 h3 h4 h5 (fun σ => passAt hT σ) ha g2 (hs _) (hs2 _ _)⟩
theorem j_own {x : Str} {k : Nat} {F : FD} {dds : List D} {ks : List Bool} {qt : Bool} {q pos : Pos} {e : Expr} {es : List Expr} {fa : DS → Option EA} (c : Fd E G x k F dds) (hk : k ≤ p.k) (hg : glOk p x = true) (ha : JA E G p ks qt (e :: es) fa) (hh : p.hot = false := by rfl) (hs : StarNo e es := by exact fun _ => rfl) (hs2 : NoStar es := by exact fun _ _ => rfl) :
    JE E G p false qt (.Call (.Name x q) (e :: es) [] pos) (evCall F ks dds fa) := fun X W hA hT =>
  let ⟨_, h6, h⟩ := at_call c hk hg hA hT hh hs hs2 (ha X W hA hT)
  PE.mono h (rd_call h6 fun _ _ _ h => h)
theorem j_ownM {x y : Str} {i k : Nat} {F : FD} {dds : List D} {ks : List Bool} {qt : Bool} {q q2 pos : Pos} {es : List Expr} {fr : DS → Option EA} (c : Fd E G x k F dds) (hk : k ≤ p.k) (hg : glOk p x = true) (hy : nmOk p i y = true) (ha : JA E G p ks qt es fr) (hh : p.hot = false := by rfl) (hs : StarNo (.Name y q2) es := by exact fun _ => rfl) (hs2 : NoStar es := by exact fun _ _ => rfl) :
    JE E G p false false (.Call (.Name x q) (.Name y q2 :: es) [] pos) (evCallM F i ks dds fr) := fun X W hA hT =>
  let ⟨_, h6, h⟩ := at_call c hk hg hA hT hh hs hs2 (pa_cons (at_pe hy hA) (ha X W hA hT) (hs _))
  PE.mono h (rd_callM h6 fun _ _ _ h => h)
/-! truth values -/
theorem j_one {vw qt : Bool} {op : BoolOp} {a : Expr} {pos : Pos} {f : DS → Option ER} (h : JE E G p vw qt a f) : JE E G p vw qt (.BoolOp op [a] pos) f := fun X W hA hT => pe_one (h X W hA hT)
theorem j_andV {v1 q1 q2 : Bool} {a b : Expr} {r : List Expr} {pos : Pos} {f g : DS → Option ER} (ha : JE E G p v1 q1 a f) (hb : JE E G p false q2 (.BoolOp .And (b :: r) pos) g) : JE E G p false (q1 && q2) (.BoolOp .And (a :: b :: r) pos) (evAndV f g) := fun X W hA hT =>
  PE.mono (pe_and (ha X W hA hT) (hb X W hA hT)) (rd_andV (fun _ _ _ h => h) fun _ _ _ h => h)
theorem j_orV {v1 q1 q2 : Bool} {a b : Expr} {r : List Expr} {pos : Pos} {f g : DS → Option ER} (ha : JE E G p v1 q1 a f) (hb : JE E G p false q2 (.BoolOp .Or (b :: r) pos) g) : JE E G p false (q1 && q2) (.BoolOp .Or (a :: b :: r) pos) (evOrV f g) := fun X W hA hT =>
  PE.mono (pe_or (ha X W hA hT) (hb X W hA hT)) (rd_orV (fun _ _ _ h => h) fun _ _ _ h => h)
theorem j_notV {v1 q1 : Bool} {a : Expr} {pos : Pos} {f : DS → Option ER} (ha : JE E G p v1 q1 a f) : JE E G p false q1 (.UnaryOp .Not a pos) (evNotV f) := fun X W hA hT => PE.mono (pe_not (ha X W hA hT)) (rd_notV fun _ _ _ h => h)
theorem j_chain {v1 v2 v3 q1 q2 q3 : Bool} {op op' : CmpOp} {a b c : Expr} {pos : Pos} {g g' : List D → Option D} {fa fb fc : DS → Option ER} (hG : G.K = E.K) (ho : ∀ {X}, XO G X → BinOk G X (compareOp op) g) (ho' : ∀ {X}, XO G X → BinOk G X (compareOp op') g') (ha : JE E G p v1 q1 a fa) (hb : JE E G p v2 q2 b fb) (hc : JE E G p v3 q3 c fc)
    (hm : lastMarks [op, op'] [b, c] = false := by rfl) : JE E G p false false (.Compare a [op, op'] [b, c] pos) (evChain g g' fa fb fc) := fun X W hA hT =>
  PE.mono (pe_chain (ho (hA.xo hG)) (ho' (hA.xo hG)) (ha X W hA hT) (hb X W hA hT) (hc X W hA hT) hm) (rd_chain snd2 snd2 (fun _ _ _ h => h) (fun _ _ _ h => h) fun _ _ _ h => h)
theorem j_tchain {v1 v2 v3 q1 q2 q3 : Bool} {op op' : CmpOp} {a b c : Expr} {pos : Pos} {g g' : List D → Option D} {fa fb fc : DS → Option ER} (hG : G.K = E.K) (ho : ∀ {X}, XO G X → BinOk G X (compareOp op) g) (ho' : ∀ {X}, XO G X → BinOk G X (compareOp op') g') (ha : JE E G p v1 q1 a fa) (hb : JE E G p v2 q2 b fb) (hc : JE E G p v3 q3 c fc)
    (hm : lastMarks [op, op'] [b, c] = false := by rfl) : JT E G p false (.Compare a [op, op'] [b, c] pos) (evTr blD (evChain g g' fa fb fc)) := fun X W hA hT =>
  PT.mono (pt_chain (ho (hA.xo hG)) (ho' (hA.xo hG)) (ha X W hA hT) (hb X W hA hT) (hc X W hA hT) hm) (rd_trb (rd_chain snd2 snd2 (fun _ _ _ h => h) (fun _ _ _ h => h) fun _ _ _ h => h))
theorem j_tcmp {ks : List Bool} {qt : Bool} {op : CmpOp} {a b : Expr} {pos : Pos} {g : List D → Option D} {fa : DS → Option EA} (hG : G.K = E.K) (ho : ∀ {X}, XO G X → BinOk G X (compareOp op) g) (ha : J2 E G p ks qt a b fa) (hm : behindInMarks op b = false := by rfl) : JT E G p qt (.Compare a [op] [b] pos) (evTr blD (evOp g fa)) := fun X W hA hT =>
  let ⟨ta, tb, h1, h2, h3⟩ := ha.go hA hT
  have h4 : ∀ σ H Q, rdE G W false qt (evOp g fa) σ H Q → tOp (fun x y H Q => rOf G g [x, y] H Q) ta tb σ H Q := fun σ H Q h => rd_op (snd_of G g) h3 σ H Q h
  PT.mono (pt_cmpR (ho (hA.xo hG)) h1 h2 hm) (rd_trb h4)
abbrev PlainT (a : Expr) : Prop := ∀ (env : Env) (whole : Sem Value), isTrue a env whole = (do let v ← whole; standAt a.pos; holding [v] (truthy v))
theorem j_tval {vw qt : Bool} {a : Expr} {f : DS → Option ER} (hG : G.K = E.K) (ha : JE E G p vw qt a f) (he : PlainT a := by exact fun _ _ => rfl) : JT E G p qt a (evTr truD f) := fun X W hA hT =>
  PT.mono (pt_truth (ha X W hA hT) (he _)) (by have := rd_tru (G := G) (W := W) (vw := vw) (qt := qt) (f := f) (fun _ _ _ h => h); rw [hG, ← hA.K] at this; exact this)
theorem j_tnot {qt : Bool} {a : Expr} {pos : Pos} {f : DS → Option EB} (ha : JT E G p qt a f) : JT E G p qt (.UnaryOp .Not a pos) (evNotT f) := fun X W hA hT => PT.mono (pt_not (ha X W hA hT)) (rd_notT fun _ _ _ h => h)
theorem j_w {qt : Bool} {a : Expr} {f : DS → Option EB} (h : JW E G p qt a f) : JT E G p qt a f := fun X W hA hT => (h X W hA hT).pt
theorem j_wa1 {qt : Bool} {a : Expr} {pos : Pos} {f : DS → Option EB} (h : JT E G p qt a f) : JW E G p qt (.BoolOp .And [a] pos) f := fun X W hA hT => pw_and1 (h X W hA hT)
theorem j_wo1 {qt : Bool} {a : Expr} {pos : Pos} {f : DS → Option EB} (h : JT E G p qt a f) : JW E G p qt (.BoolOp .Or [a] pos) f := fun X W hA hT => pw_or1 (h X W hA hT)
theorem j_wand {q1 q2 : Bool} {a b : Expr} {r : List Expr} {pos : Pos} {f g : DS → Option EB} (ha : JT E G p q1 a f) (hb : JW E G p q2 (.BoolOp .And (b :: r) pos) g) : JW E G p (q1 && q2) (.BoolOp .And (a :: b :: r) pos) (evAndT f g) := fun X W hA hT =>
  PW.mono (pw_and (ha X W hA hT) (hb X W hA hT)) (rd_andT (fun _ _ _ h => h) fun _ _ _ h => h)
theorem j_wor {q1 q2 : Bool} {a b : Expr} {r : List Expr} {pos : Pos} {f g : DS → Option EB} (ha : JT E G p q1 a f) (hb : JW E G p q2 (.BoolOp .Or (b :: r) pos) g) : JW E G p (q1 && q2) (.BoolOp .Or (a :: b :: r) pos) (evOrT f g) := fun X W hA hT =>
  PW.mono (pw_or (ha X W hA hT) (hb X W hA hT)) (rd_orT (fun _ _ _ h => h) fun _ _ _ h => h)
theorem j_if {q1 q2 q3 : Bool} {c a b : Expr} {pos : Pos} {t : DS → Option EB} {f g : DS → Option ER} (hc : JT E G p q1 c t) (ha : JE E G p false q2 a f) (hb : JE E G p false q3 b g) : JE E G p false (q1 && q2 && q3) (.IfExp c a b pos) (evIf t f g) := fun X W hA hT =>
  PE.mono (pe_ifExp (hc X W hA hT) (ha X W hA hT) (hb X W hA hT)) (rd_if (fun _ _ _ h => h) (fun _ _ _ h => h) fun _ _ _ h => h)
/-! what is gone through -/
def Rt (fs : DS → Option EI) (rt : Option Nat) : Prop := ∀ δ i d xs δ', fs δ = some (.ok (.lent i d xs), δ') → rt = some i
theorem rt_src {rt : Option Nat} {vw : Bool} {f : DS → Option ER} : Rt (evSrc rt vw f) rt := fun δ i d xs δ' h => by
  unfold evSrc at h
  split at h
  · cases h
  · cases h
  · split at h
    · cases h
    · split at h
      · split at h
        · cases h
        · cases h; rfl
      · cases h
theorem rt_rng {g : List D → Option (List D)} {f : DS → Option EA} : Rt (evRng g f) none := fun δ i d xs δ' h => by
  unfold evRng at h
  split at h
  · cases h
  · cases h
  · split at h
    · cases h
    · cases h
theorem j_src {vw qt : Bool} {tg e : Expr} {f : DS → Option ER} (hG : G.K = E.K) (ha : JE E G p vw qt e f) : JI E G p qt tg e (evSrc none vw f) := fun X W hA hT =>
  PI.mono (pi_any (ha X W hA hT)) (by have := rd_src (G := G) (W := W) (vw := vw) (qt := qt) (f := f) (fun _ _ _ h => h); rw [hG, ← hA.K] at this; exact this)
theorem j_srcV {i : Nat} {x : Str} {tg : Expr} {pos : Pos} (hG : G.K = E.K) (h : nmOk p i x = true) : JI E G p false tg (.Name x pos) (evSrc (some i) true (evVar i)) := fun X W hA hT =>
  PI.mono (pi_any (at_pe h hA)) (by have := rd_srcV (G := G) (W := W) (i := i); rw [hG, ← hA.K] at this; exact this)
theorem j_rng1 {ks : List Bool} {qt : Bool} {tg a : Expr} {q pos : Pos} {f : DS → Option EA} (hg : glOk p (Str.ofString "range") = true) (hm : E.mg (Str.ofString "range") = none) (ha : JA E G p ks qt [a] f) (hs : StarNo a [] := by exact fun _ => rfl) : JI E G p qt tg (.Call (.Name (Str.ofString "range") q) [a] [] pos) (evRng rng1Of f) := fun X W hA hT =>
  PI.mono (pi_range1 (at_gl hg hA).1 (by rw [hA.mg]; exact hm) (ha X W hA hT) (hs _)) (rd_rng rng1_ok fun _ _ _ h => h)
theorem j_rng2 {ks : List Bool} {qt : Bool} {tg a b : Expr} {q pos : Pos} {f : DS → Option EA} (hg : glOk p (Str.ofString "range") = true) (hm : E.mg (Str.ofString "range") = none) (ha : JA E G p ks qt [a, b] f) (hs : StarNo a [b] := by exact fun _ => rfl) (hs2 : StarNo b [] := by exact fun _ => rfl) : JI E G p qt tg (.Call (.Name (Str.ofString "range") q) [a, b] [] pos) (evRng rng2Of f) := fun X W hA hT =>
  PI.mono (pi_range2 (at_gl hg hA).1 (by rw [hA.mg]; exact hm) (ha X W hA hT) (by rw [hs, hs2]; rfl) (hs2 _)) (rd_rng rng2_ok fun _ _ _ h => h)
/-! targets -/
theorem at_tg {i : Nat} {x : Str} {pos : Pos} (h : stOk p i x = true) (hN : p.N.Nodup) (hA : At E p X) : PG X (.Name x pos) (gName i) := by
  unfold stOk at h
  simp only [Bool.and_eq_true, Bool.or_eq_true, decide_eq_true_eq] at h
  refine pg_name (by rw [hA.N]; exact hN) (by rw [hA.N]; exact h.1) ?_ ?_
  · rw [hA.sc]; exact h.2.elim (fun z => .inr z.1) .inl
  · rw [hA.sc, hA.fn]; exact h.2.elim (fun z => .inl z.2) .inr
theorem j_tg {i : Nat} {x : Str} {pos : Pos} (h : stOk p i x = true) (hN : p.N.Nodup) (hi : i < n) (hp : i ∉ pn) : JTg E G p n pn (.Name x pos) (tgName i) := ⟨gName i, tg_name hi hp, fun X hA => at_tg h hN hA⟩
def JNs (E : En) (p : Pl) (n : Nat) (pn : List Nat) (es : List Expr) (is : List Nat) : Prop := (∀ i ∈ is, i < n ∧ i ∉ pn) ∧ ∀ X, At E p X → PGs X es (gNames is)
theorem j_ns0 : JNs E p n pn [] [] := ⟨fun i h => by simp at h, fun X hA => pgs_nil⟩
abbrev TgNo (e : Expr) (es : List Expr) : Prop := ∀ env, (assignEach (e :: es) env).map (fun x => x.2) = assign e env :: (assignEach es env).map fun x => x.2
theorem j_ns {i : Nat} {is : List Nat} {x : Str} {pos : Pos} {es : List Expr} (h : stOk p i x = true) (hN : p.N.Nodup) (hi : i < n) (hp : i ∉ pn) (hr : JNs E p n pn es is) (ht : TgNo (.Name x pos) es := by exact fun _ => rfl) : JNs E p n pn (.Name x pos :: es) (i :: is) :=
  ⟨fun j hj => (List.mem_cons.mp hj).elim (fun e => by rw [e]; exact ⟨hi, hp⟩) (hr.1 j), fun X hA => pgs_cons (at_tg h hN hA) (hr.2 X hA) (ht _)⟩
theorem j_tgt {is : List Nat} {es : List Expr} {k : Nat} {pos : Pos} (hG : G.K = E.K) (h : JNs E p n pn es is) (hh : p.hot = false := by rfl) (h1 : ∀ env, (assignEach es env).length = is.length := by exact fun _ => rfl) (h2 : ∀ env, (assignEach es env).findIdx? (fun x => x.1) = none := by exact fun _ => rfl) : JTg E G p n pn (.Tuple es k pos) (tgTup is) :=
  ⟨_, tg_tup h.1, fun X hA => by have := pg_tup (pos := pos) (k := k) (hA.calm hh) (h.2 X hA) (h1 _) (h2 _); rw [hA.K, ← hG] at this; exact this⟩
/-! comprehensions -/
theorem j_yes : JTs E G p true [] evYes := fun X W hA hT => PTs.mono pts_nil (by
  rintro σ H Q ⟨δ, Z, S, FS, sr, -, ok, -⟩
  exact ok true δ rfl H Z FS ⟨sr, Step.refl _ _ _, fun _ => ⟨rfl, fun _ _ e => e⟩⟩)
theorem j_tst {qt : Bool} {c : Expr} {f : DS → Option EB} (h : JT E G p qt c f) : JTs E G p qt [c] f := fun X W hA hT => pts_one (h X W hA hT)
/-- all that a comprehension wants -/
structure JLc (E : En) (G : GC) (p : Pl) (own : List (Str × Nat)) (elt tg iter : Expr) (ifs : List Expr) (scope : Scope) (f : DS → Option ER) : Prop where
  go : ∃ fs tgf t fe q1 q2 q3 rt, f = evLc fs tgf t fe (own.map (·.2)) ∧ JI E G p q1 tg iter fs ∧ Rt fs rt ∧ (∀ i, rt = some i → i ∉ own.map (·.2)) ∧ JTg E G (p.blk scope) p.N.length (outside p.N.length (own.map (·.2))) tg tgf ∧ JTs E G (p.blk scope) q2 ifs t ∧ JE E G (p.blk scope) false q3 elt fe
  nd : p.N.Nodup
  blk : blkC p.N p.sc scope own = true
  it : ∀ env x, foldedSetIterable iter env x = pure x
  cold : p.hot = false
theorem j_lcK {own : List (Str × Nat)} {elt tg iter : Expr} {ifs : List Expr} {scope : Scope} {fs : DS → Option EI} {tgf : D → DS → Option DS} {t : DS → Option EB} {fe : DS → Option ER} {q1 q2 q3 : Bool} {rt : Option Nat}
    (nd : p.N.Nodup) (hb : blkC p.N p.sc scope own = true) (hi : JI E G p q1 tg iter fs) (hr : Rt fs rt) (hrt : ∀ i, rt = some i → i ∉ own.map (·.2)) (htg : JTg E G (p.blk scope) p.N.length (outside p.N.length (own.map (·.2))) tg tgf) (ht : JTs E G (p.blk scope) q2 ifs t) (he : JE E G (p.blk scope) false q3 elt fe) (hh : p.hot = false := by rfl) (hit : ∀ env x, foldedSetIterable iter env x = pure x := by exact fun _ _ => rfl) :
    JLc E G p own elt tg iter ifs scope (evLc fs tgf t fe (own.map (·.2))) := ⟨⟨_, _, _, _, _, _, _, _, rfl, hi, hr, hrt, htg, ht, he⟩, nd, hb, hit, hh⟩
theorem JLc.pe {own : List (Str × Nat)} {elt tg iter : Expr} {ifs : List Expr} {scope : Scope} {f : DS → Option ER} {pos : Pos} (h : JLc E G p own elt tg iter ifs scope f) : JE E G p false false (.ListComp elt [⟨tg, iter, ifs, 0⟩] scope pos) f := fun X W hA hT => by
  obtain ⟨⟨fs, tgf, t, fe, q1, q2, q3, rt, rfl, hi, hr, hrt, ⟨g, hg1, hg2⟩, ht, he⟩, nd, hb, hit, hh⟩ := h
  refine PE.monoL (pe_lc (own := own) (hA.calm hh) (by rw [hA.N]; exact nd) (hi X W hA hT) (by rw [hA.N, hA.sc]; exact blkOk_by hb) (fun s H C cl fp => hg2 _ (hA.blk s H scope C cl fp)) (fun s H C cl fp => ht _ W0 (hA.blk s H scope C cl fp) takes_w0) (fun s H C cl fp => he _ W0 (hA.blk s H scope C cl fp) takes_w0) (hit _)) fun σ H Q hl h => ?_
  exact rd_lc (fun _ _ _ h => h) hg1 (fun _ _ _ h => h) (fun _ _ _ h => h) (fun δ i d xs δ' e => hrt i (hr δ i d xs δ' e)) σ H Q (by rw [hl, hA.N]) h
end
end PD
/-! P, part 16: the rules of P for statements and defs. -/
namespace PD
open PySem L2

section
variable {E : En} {G : GC} {p : Pl} {X : Cx} {n : Nat} {pn : List Nat}
theorem s_asg {qt : Bool} {i : Nat} {x : Str} {q pos : Pos} {e : Expr} {f : DS → Option ER} (h : stOk p i x = true) (hN : p.N.Nodup) (hi : i < n) (hp : i ∉ pn) (ha : JE E G p false qt e f) (hsw : ∀ env : Env, env.scope = p.sc → swapsWith e (some (.Name x q)) pos.line env = pure false := by exact fun _ _ => rfl) : JS E G p n pn (.Assign [.Name x q] e pos) (evAsg i f) := fun X W hA hT _ => by
  unfold stOk at h
  simp only [Bool.and_eq_true, Bool.or_eq_true, decide_eq_true_eq] at h
  refine PS.mono (ps_set (by rw [hA.N]; exact hN) (by rw [hA.N]; exact h.1) ?_ (ha X W hA hT) (hsw _ hA.sc) ?_) (rd_asg hi hp fun _ _ _ h => h)
  · rw [hA.sc]; exact h.2.elim (fun z => .inr z.1) .inl
  · rw [hA.sc, hA.fn]; exact h.2.elim (fun z => .inl z.2) .inr
theorem sw_cell {elt : Expr} {gs : List Comprehension} {scope : Scope} {pos py : Pos} {y : Str} {l : Nat} {env : Env} (h : (env.scope.names.lookup y == some .local) = false) : swapsWith (.ListComp elt gs scope pos) (some (.Name y py)) l env = pure false := by
  show pure _ = _
  have : (env.kindOf y == some NameKind.local) = false := h
  rw [this]
  simp
theorem s_asgLc {own : List (Str × Nat)} {i : Nat} {x : Str} {q pos spos : Pos} {elt tg iter : Expr} {ifs : List Expr} {scope : Scope} {f : DS → Option ER} (hx : p.N[i]? = some x) (hl : p.sc.names.lookup x = some .local) (hk : p.sc.kind = .function) (hi : i < p.N.length) (hp : i ∉ pn) (h : JLc E G p own elt tg iter ifs scope f)
    (hq : (q.line == pos.line) = true) (hs : (scope.names.any fun x' => match x' with | (m, k) => m == x && (k == .local || k == .cell)) = false) : JS E G p p.N.length pn (.Assign [.Name x q] (.ListComp elt [⟨tg, iter, ifs, 0⟩] scope pos) spos) (evAsg i f) := fun X W hA hT _ => by
  obtain ⟨⟨fs, tgf, t, fe, q1, q2, q3, rt, rfl, hji, hr, hrt, ⟨g, hg1, hg2⟩, ht, he⟩, nd, hb, hit, hh⟩ := h
  have P0 := ps_setLc (i := i) (y := x) (py := q) (pos := pos) (spos := spos) (own := own) (hA.calm hh) (by rw [hA.N]; exact nd) (by rw [hA.N]; exact hx) (by rw [hA.sc]; exact hl) (sw_true (by rw [hA.sc]; exact hk) (by rw [hA.sc]; exact hl) hq hs) (hji X W hA hT) (by rw [hA.N, hA.sc]; exact blkOk_by hb) (fun s H C cl fp => hg2 _ (hA.blk s H scope C cl fp)) (fun s H C cl fp => ht _ W0 (hA.blk s H scope C cl fp) takes_w0) (fun s H C cl fp => he _ W0 (hA.blk s H scope C cl fp) takes_w0) (hit _)
  refine PS.mono P0 fun D σ H h => ?_
  have key : ∀ σ H Q, rdE G W false false (evLc fs tgf t fe (own.map (·.2))) σ H Q → (fun σ H Q => σ.length = p.N.length → tLc (rdI G W q1 fs) g (rdT G W0 q2 t) (rdE G W0 false q3 fe) (own.map (·.2)) σ H Q) σ H Q := fun σ H Q h hl => rd_lc (fun _ _ _ h => h) hg1 (fun _ _ _ h => h) (fun _ _ _ h => h) (fun δ i d xs δ' e => hrt i (hr δ i d xs δ' e)) σ H Q hl h
  exact rd_asg hi hp key D σ H h h.1
theorem s_set {qt q2 vk : Bool} {i : Nat} {x : Str} {q r pos : Pos} {e ek : Expr} {f fk : DS → Option ER} (hG : G.K = E.K) (h : nmOk p i x = true) (ha : JE E G p false qt e f) (hk : JE E G p vk q2 ek fk)
    (h1 : ∀ (env : Env) (v : Value), assign (.Subscript (.Name x q) ek r) env v = (do
      let ov ← holding [v] (eval (.Name x q) env)
      let iv ← holding [v, ov] (eval ek env)
      standAt r
      holding [v, ov, iv] (setItem ov iv v)
      release [v, ov, iv] []) := by exact fun _ _ => rfl)
    (h2 : ∀ env : Env, swapsWithSole [.Subscript (.Name x q) ek r] e pos.line env = pure false := by exact fun _ => rfl) (h3 : ∀ env : Env, swappedStores [.Subscript (.Name x q) ek r] e env = pure none := by exact fun _ => rfl)
    (h4 : ∀ env : Env, (assignEach [.Subscript (.Name x q) ek r] env).map (fun x => x.2) = [assign (.Subscript (.Name x q) ek r) env] := by exact fun _ => rfl) : JS E G p n pn (.Assign [.Subscript (.Name x q) ek r] e pos) (evSet i f fk) := fun X W hA hT _ =>
  PS.mono (ps_asg (ha X W hA hT) (pg_sub (at_pe h hA) (hk X W hA hT) set_list (h1 _)) (h2 _) (h3 _) (h4 _)) (rd_set (fun _ _ _ h => h) fun _ _ _ h => h)
theorem s_app {qt : Bool} {i : Nat} {x : Str} {q a c pos : Pos} {e : Expr} {f : DS → Option ER} (hG : G.K = E.K) (h : nmOk p i x = true) (ha : JE E G p false qt e f) (h0 : ∀ env : Env, attributeBase (.Name x q) (Str.ofString "append") env (eval (.Name x q) env) = eval (.Name x q) env := by exact fun _ => rfl) (hs : StarNo e [] := by exact fun _ => rfl) (hp : (a.endLine == c.line) = true := by rfl)
    (h2 : ∀ env : Env, ((((backTo c (starEach [e] env)).all fun x => !x.1) && ((backToKw c (keywordEach [] env)).all fun x => x.1.isSome)) && decide (([e].length + ([] : List Keyword).length + if ([] : List Keyword).isEmpty = true then 0 else 1) < 30)) = true := by exact fun _ => rfl)
    (h3 : ∀ env : Env, swapsWith (.Call (.Attribute (.Name x q) (Str.ofString "append") a) [e] [] c) none pos.line env = pure false := by exact fun _ => rfl) : JS E G p n pn (.Expr (.Call (.Attribute (.Name x q) (Str.ofString "append") a) [e] [] c) pos) (evApp i f) := fun X W hA hT _ => by
  have P0 := ps_expr (pos := pos) (pe_bm (apos := a) (cpos := c) PySem.F.plainAttrs_list PySem.F.slot_list_append PySem.F.type_list_append mt_append (at_pe h hA) (pa_cons (ha X W hA hT) pa_nil (hs _)) (h0 _) (h2 _) hp (hs _) (by rfl)) (h3 _)
  refine PS.mono P0 ?_
  have := rd_app (G := G) (W := W) (n := n) (pn := pn) (i := i) (qt := qt) (f := f) trivial fun _ _ _ h => h
  rw [hG, ← hA.K] at this
  exact this
theorem s_expr {vw qt : Bool} {e : Expr} {pos : Pos} {f : DS → Option ER} (ha : JE E G p vw qt e f) (h3 : ∀ env : Env, swapsWith e none pos.line env = pure false := by exact fun _ => rfl) : JS E G p n pn (.Expr e pos) (evDrop f) := fun X W hA hT _ => PS.mono (ps_expr (ha X W hA hT) (h3 _)) (rd_drop fun _ _ _ h => h)
theorem s_ret {qt : Bool} {e : Expr} {pos : Pos} {f : DS → Option ER} (ha : JE E G p false qt e f) : JS E G p n pn (.Return (some e) pos) (evRet f) := fun X W hA hT _ => PS.mono (ps_ret (ha X W hA hT)) (rd_ret fun _ _ _ h => h)
theorem s_retN {pos : Pos} : JS E G p n pn (.Return none pos) evRetN := fun X W hA hT _ => PS.mono ps_retN rd_retN
theorem s_brk {pos : Pos} : JS E G p n pn (.Break pos) evBrk := fun X W hA hT _ => PS.mono ps_break rd_brk
theorem s_cnt {pos : Pos} : JS E G p n pn (.Continue pos) evCnt := fun X W hA hT _ => PS.mono ps_continue rd_cnt
theorem s_pass {pos : Pos} : JS E G p n pn (.Pass pos) evNx := fun X W hA hT _ => PS.mono ps_pass rd_nx
theorem s_if {q1 : Bool} {c : Expr} {a b : List Stmt} {pos : Pos} {t : DS → Option EB} {f g : DS → Option ES} (hc : JT E G p q1 c t) (ha : JSs E G p n pn a f) (hb : JSs E G p n pn b g) : JS E G p n pn (.If c a b pos) (evIfS t f g) := fun X W hA hT hP => PS.mono (ps_if (hc X W hA hT) (ha X W hA hT hP) (hb X W hA hT hP)) (rd_ifS (fun _ _ _ h => h) (fun _ _ _ h => h) fun _ _ _ h => h)
theorem s_for {q1 : Bool} {rt : Option Nat} {pn' : List Nat} {tg iter : Expr} {body : List Stmt} {pos : Pos} {fs : DS → Option EI} {tgf : D → DS → Option DS} {f : DS → Option ES} (hi : JI E G p q1 tg iter fs) (hr : Rt fs rt) (hrt : ∀ i, rt = some i → i ∈ pn') (hpn : ∀ j ∈ pn, j ∈ pn') (htg : JTg E G p n pn' tg tgf) (hb : JSs E G p n pn' body f) (hh : p.hot = false := by rfl) (hit : ∀ env x, foldedSetIterable iter env x = pure x := by exact fun _ _ => rfl) :
    JS E G p n pn (.For tg iter body [] pos) (evFor fs tgf f) := fun X W hA hT hP => by
  obtain ⟨g, hg1, hg2⟩ := htg
  exact PS.mono (ps_for hP (hA.calm hh) (hi X W hA hT) (hg2 X hA) (hb X W hA hT hP) (hit _)) (rd_for (fun _ _ _ h => h) hg1 (fun _ _ _ h => h) hpn fun δ i d xs δ' e => hrt i (hr δ i d xs δ' e))
theorem s_whl {qt : Bool} {c : Expr} {body : List Stmt} {pos : Pos} {t : DS → Option EB} {f : DS → Option ES} (k0 : Nat) (hc : JT E G p qt c t) (hb : JSs E G p n pn body f) : JS E G p n pn (.While c body [] pos) (evWhl t f k0) := fun X W hA hT hP => PS.mono (ps_while hP (hc X W hA hT) (hb X W hA hT hP)) (rd_whl (fun _ _ _ h => h) fun _ _ _ h => h)
theorem ss_nil : JSs E G p n pn [] evNx := fun X W hA hT hP => PSs.mono pss_nil rd_nx
theorem ss_cons {st : Stmt} {r : List Stmt} {f g : DS → Option ES} (hs : JS E G p n pn st f) (hr : JSs E G p n pn r g) : JSs E G p n pn (st :: r) (evSeq f g) := fun X W hA hT hP => PSs.mono (pss_cons (hs X W hA hT hP) (hr X W hA hT hP)) (rd_seq (fun _ _ _ h => h) fun _ _ _ h => h)
end
/-- a def's place -/
abbrev fnPl (N : List Str) (k : Nat) (scope : Scope) : Pl := ⟨N, k, scope, fun _ => true, false, false⟩
theorem fd_of {E : En} {G : GC} {x : Str} {params : Arguments} {body : List Stmt} {scope : Scope} {dvl : List V} {f : Addr} {fd : FuncData} {N ps : List Str} {k : Nat} {m : Bool} {ev : DS → Option ES} (F : FunD E.K x x params body scope dvl [] f fd) (hm : E.mg x = some (.ref f)) (S : FnScope N ps scope) (hl : ps.length ≤ N.length) (h0 : m = true → 0 < ps.length)
    (hb : JSs E G (fnPl N k scope) N.length (if m = true then [0] else []) body ev) : FnOk E.P E.w E.K E.mg E.base (CX E.P E.w) (k + 1) f fd ps (spF G (fnOf N.length ps.length m ev)) := by
  refine F.ok S (fun vs H Q Ex h => ?_) (fun cdv A outer s H vs Q Ex hr h => ?_)
  · obtain ⟨ds, Z, S, FS, sr, ⟨r, hr⟩, _⟩ := h
    have := fnOf_len hr
    have := sr.len
    simp at this
    omega
  · refine ⟨_, hb _ (fun c dd _ H => Ex c dd H) ⟨rfl, rfl, rfl, rfl, rfl, rfl, Nat.lt_of_le_of_lt (Nat.add_le_add_right (Nat.le_add_right _ (16 * k)) 200) hr.un, fun _ => hr, fun _ => rfl, rfl, rfl, fun _ => ⟨rfl, rfl⟩⟩ (takes_of rfl rfl rfl rfl) (passes_of rfl), ?_⟩
    exact rd_fn (t := rdS G (fun c dd _ H => Ex c dd H) N.length (if m = true then [0] else []) ev) rfl hl h0 (fun _ _ _ h => h) h
theorem fd_all {E : En} {G : GC} {x : Str} {k : Nat} {F : FD} {f : Addr} {fd : FuncData} {ps : List Str} (h : FnOk E.P E.w E.K E.mg E.base (CX E.P E.w) k f fd ps (spF G F)) (hm : E.mg x = some (.ref f)) (hk : PySem.W.keepIn E.K (.ref f) = true) (hb : Binds E.K fd ps []) : Fd E G x k F [] :=
  ⟨f, fd, ps, [], [], h, hm, hk, hb, .nil, fun _ _ => ⟨rfl, fun i d v e => by simp at e⟩⟩
end PD
/-! P, part 17: the law's own promise. -/
namespace PD
open PySem L2
theorem cx_no {P : Program} {w : World} {H : Hp} {s : Shared} {e : Value} {s' : Shared} (h : CX P w [] H s (fun _ _ _ => False) e s') : False := by
  obtain ⟨_, _, _, _, _, _, _, _, _, _, _, _, h⟩ := h
  exact h
/-- what the plain law says -/
def LawOk (F : FD) (ns : List Int) : Prop := ∃ δ, F [.lst .k (ns.map .int)] = some (.ok (.bl true), δ)
theorem law_sp {G : GC} {F : FD} {H : Hp} {a : Addr} {ns : List Int} (hS : SqL G.K H a (ns.map V.int)) (hF : LawOk F ns) : spF G F [.ref a] H (fun v _ => v = V.bl true) fun _ _ _ => False := by
  obtain ⟨δ0, hF⟩ := hF
  have hint : ∀ {Z : AS} (i : Nat) d v, (ns.map D.int)[i]? = some d → (ns.map V.int)[i]? = some v → RepF G Z H d v := fun {Z} i d v e1 e2 => by
    obtain ⟨x, f1, rfl⟩ := getMap e1
    obtain ⟨y, f2, rfl⟩ := getMap e2
    rw [f1] at f2; cases f2
    exact .int _
  have key : ∀ Z : AS, (∀ x, Z x → ∃ o, H x = some o) → RepF G Z H (.lst .k (ns.map .int)) (.ref a) → spF G F [.ref a] H (fun v _ => v = V.bl true) fun _ _ _ => False := fun Z hz r => by
    refine ⟨[.lst .k (ns.map .int)], Z, fun _ => S0, fun _ => S0, ⟨rfl, fun i d e => ?_, fun _ _ _ z => z, fun _ _ _ z => z.elim, hz, fun x ⟨_, z⟩ => z.elim, fun x ⟨_, z⟩ => z.elim⟩, ⟨_, hF⟩, fun d δ' e v H' Z' FS' A p => ?_, fun x δ' e => ?_⟩
    · cases i with
      | zero => simp at e; subst e; exact ⟨_, rfl, .fz r fun _ z => z⟩
      | succ i => simp at e
    · rw [hF] at e
      cases e
      have vl := p.vl
      rw [if_neg Bool.false_ne_true] at vl
      exact vl.1.blV
    · rw [hF] at e; cases e
  rcases hS with hS | hS
  · refine key (fun x => x = a) (fun x e => ?_) (.lsk (.inl ⟨rfl, hS⟩) (by simp) hint)
    subst e
    rcases hS with h | ⟨o, h⟩
    · exact ⟨_, h⟩
    · exact ⟨_, h⟩
  · exact key S0 (fun _ z => z.elim) (.lsk (.inr hS) (by simp) hint)
theorem cx_no' {P : Program} {w : World} {o : List Env} {H : Hp} {s : Shared} {e : Value} {s' : Shared} (h : CX P w o H s (fun _ _ _ => False) e s') : False := by
  obtain ⟨_, _, _, _, _, _, _, _, _, _, _, _, h⟩ := h
  exact h
/-- a def that lets nothing out -/
theorem fnOk0 {P : Program} {w : World} {K : PySem.W.Frag} {mg : Str → Option Value} {base : Heap} {k : Nat} {f : Addr} {fd : FuncData} {ps : List Str} {sp : Sp} (F : FnOk P w K mg base (CX P w) k f fd ps sp) : FnOk P w K mg base CX0 k f fd ps (fun vs H Q _ => sp vs H Q fun _ _ _ => False) where
  len := fun vs H Q E h => F.len vs H Q _ h
  run := fun A outer s H args us vs Q E hr e b v h => codeAny_mono (F.run A outer s H args us vs Q _ hr e b v h) fun r s' h => by
    cases r with
    | ok fl => cases fl <;> exact h
    | error e => exact (cx_no' h).elim
end PD
/-! P, part 18: the evaluator told forwards: what is wanted behind a piece, in terms of what is wanted behind its parts. -/
namespace PD
open PySem L2

def GE {α : Type} (f : DS → Option (RR α × DS)) (δ : DS) (Q : RR α → DS → Prop) : Prop := ∃ r δ', f δ = some (r, δ') ∧ Q r δ'
def Go (f : DS → Option ES) (δ : DS) (Q : Out → DS → Prop) : Prop := ∃ o δ', f δ = some (o, δ') ∧ Q o δ'
def kk {α β : Type} (k : α → DS → Prop) (Q : RR β → DS → Prop) : RR α → DS → Prop
  | .ok a, δ => k a δ
  | .ex x, δ => Q (.ex x) δ
def kS {α : Type} (k : α → DS → Prop) (Q : Out → DS → Prop) : RR α → DS → Prop
  | .ok a, δ => k a δ
  | .ex x, δ => Q (.ex x) δ
/-- what slot i holds -/
def sl (δ : DS) (i : Nat) (k : D → Prop) : Prop := ∃ d, δ[i]? = some (some d) ∧ k d
def has {α : Type} (o : Option α) (k : α → Prop) : Prop := ∃ a, o = some a ∧ k a
theorem kk_ok {α β : Type} {k : α → DS → Prop} {Q : RR β → DS → Prop} {a : α} {δ : DS} : kk k Q (.ok a) δ = k a δ := rfl
theorem kk_ex {α β : Type} {k : α → DS → Prop} {Q : RR β → DS → Prop} {x : Xc} {δ : DS} : kk k Q (.ex x) δ = Q (.ex x) δ := rfl
theorem kS_ok {α : Type} {k : α → DS → Prop} {Q : Out → DS → Prop} {a : α} {δ : DS} : kS k Q (.ok a) δ = k a δ := rfl
theorem kS_ex {α : Type} {k : α → DS → Prop} {Q : Out → DS → Prop} {x : Xc} {δ : DS} : kS k Q (.ex x) δ = Q (.ex x) δ := rfl
theorem has_some {α : Type} {a : α} {k : α → Prop} : has (some a) k = k a := propext ⟨fun ⟨_, e, h⟩ => (by cases e; exact h), fun h => ⟨a, rfl, h⟩⟩
theorem has_none {α : Type} {k : α → Prop} : has (none : Option α) k = False := propext ⟨fun ⟨_, e, _⟩ => (by cases e), False.elim⟩
theorem sl_0 {d : D} {δ : DS} {k : D → Prop} : sl (some d :: δ) 0 k = k d := propext ⟨fun ⟨_, e, h⟩ => (by cases e; exact h), fun h => ⟨d, rfl, h⟩⟩
theorem sl_0n {δ : DS} {k : D → Prop} : sl (none :: δ) 0 k = False := propext ⟨fun ⟨_, e, h⟩ => (by cases e), False.elim⟩
theorem sl_s {o : Option D} {δ : DS} {i : Nat} {k : D → Prop} : sl (o :: δ) (i + 1) k = sl δ i k := rfl
/-- δ with slot i set, for lists written out -/
def st : DS → Nat → Option D → DS
  | [], _, _ => []
  | _ :: δ, 0, d => d :: δ
  | o :: δ, i + 1, d => o :: st δ i d
theorem st_eq : ∀ (δ : DS) (i : Nat) (d : Option D), δ.set i d = st δ i d
  | [], _, _ => rfl
  | _ :: _, 0, _ => rfl
  | o :: δ, i + 1, d => by rw [List.set_cons_succ, st_eq δ i d]; rfl
theorem st_0 {o d : Option D} {δ : DS} : st (o :: δ) 0 d = d :: δ := rfl
theorem st_s {o d : Option D} {δ : DS} {i : Nat} : st (o :: δ) (i + 1) d = o :: st δ i d := rfl
section
variable {α : Type} {Q : RR D → DS → Prop} {QA : RR (List D) → DS → Prop} {QB : RR Bool → DS → Prop} {QI : RR Sr → DS → Prop} {QS : Out → DS → Prop} {δ : DS}
theorem bindG {α β : Type} {f : DS → Option (RR α × DS)} {f' : DS → Option (RR β × DS)} {h : α → DS → Option (RR β × DS)} {Q : RR β → DS → Prop} {δ : DS}
    (e : f' δ = match f δ with | none => none | some (.ex x, δ') => some (.ex x, δ') | some (.ok a, δ') => h a δ') : GE f' δ Q = GE f δ (kk (fun a δ' => ∃ r δ2, h a δ' = some (r, δ2) ∧ Q r δ2) Q) := by
  refine propext ⟨fun ⟨r, δ', e1, q⟩ => ?_, fun ⟨r, δ', e1, q⟩ => ?_⟩
  · rw [e] at e1
    cases e2 : f δ with
    | none => rw [e2] at e1; cases e1
    | some w =>
      obtain ⟨w, δ1⟩ := w
      rw [e2] at e1
      cases w with
      | ok a => exact ⟨.ok a, δ1, e2, r, δ', e1, q⟩
      | ex x => cases e1; exact ⟨.ex x, _, e2, q⟩
  · cases r with
    | ok a =>
      obtain ⟨r, δ2, e2, q⟩ := q
      refine ⟨r, δ2, ?_, q⟩
      rw [e, e1]; exact e2
    | ex x =>
      refine ⟨.ex x, δ', ?_, q⟩
      rw [e, e1]
theorem bindS {α : Type} {f : DS → Option (RR α × DS)} {f' : DS → Option ES} {h : α → DS → Option ES} {Q : Out → DS → Prop} {δ : DS}
    (e : f' δ = match f δ with | none => none | some (.ex x, δ') => some (.ex x, δ') | some (.ok a, δ') => h a δ') : Go f' δ Q = GE f δ (kS (fun a δ' => ∃ r δ2, h a δ' = some (r, δ2) ∧ Q r δ2) Q) := by
  refine propext ⟨fun ⟨r, δ', e1, q⟩ => ?_, fun ⟨r, δ', e1, q⟩ => ?_⟩
  · rw [e] at e1
    cases e2 : f δ with
    | none => rw [e2] at e1; cases e1
    | some w =>
      obtain ⟨w, δ1⟩ := w
      rw [e2] at e1
      cases w with
      | ok a => exact ⟨.ok a, δ1, e2, r, δ', e1, q⟩
      | ex x => cases e1; exact ⟨.ex x, _, e2, q⟩
  · cases r with
    | ok a =>
      obtain ⟨r, δ2, e2, q⟩ := q
      refine ⟨r, δ2, ?_, q⟩
      rw [e, e1]; exact e2
    | ex x =>
      refine ⟨.ex x, δ', ?_, q⟩
      rw [e, e1]
theorem ex2 {α : Type} {a : α} {δ : DS} {Q : α → DS → Prop} : (∃ r δ2, some (a, δ) = some (r, δ2) ∧ Q r δ2) = Q a δ := propext ⟨fun ⟨_, _, e, q⟩ => (by cases e; exact q), fun q => ⟨_, _, rfl, q⟩⟩
theorem ex2n {α : Type} {Q : α → DS → Prop} : (∃ r δ2, (none : Option (α × DS)) = some (r, δ2) ∧ Q r δ2) = False := propext ⟨fun ⟨_, _, e, q⟩ => (by cases e), False.elim⟩
theorem kkc {α β : Type} {k k' : α → DS → Prop} {Q : RR β → DS → Prop} (h : ∀ a δ, k a δ = k' a δ) : kk k Q = kk k' Q := by
  have : k = k' := funext fun a => funext fun δ => h a δ
  rw [this]
theorem kSc {α : Type} {k k' : α → DS → Prop} {Q : Out → DS → Prop} (h : ∀ a δ, k a δ = k' a δ) : kS k Q = kS k' Q := by
  have : k = k' := funext fun a => funext fun δ => h a δ
  rw [this]
theorem hasC {α β : Type} {o : Option α} {g : α → β} {δ : DS} {Q : β → DS → Prop} : (∃ r δ2, (match o with | none => none | some a => some (g a, δ)) = some (r, δ2) ∧ Q r δ2) = has o fun a => Q (g a) δ := by
  cases o with
  | none => rw [has_none]; exact ex2n
  | some a => rw [has_some]; exact ex2
theorem iteC {α : Type} {c : Prop} [Decidable c] {a b : Option (α × DS)} {Q : α → DS → Prop} : (∃ r δ2, (if c then a else b) = some (r, δ2) ∧ Q r δ2) = if c then (∃ r δ2, a = some (r, δ2) ∧ Q r δ2) else ∃ r δ2, b = some (r, δ2) ∧ Q r δ2 := by
  by_cases h : c
  · rw [if_pos h, if_pos h]
  · rw [if_neg h, if_neg h]
theorem iteN {α : Type} {c : Prop} [Decidable c] {a : Option (α × DS)} {Q : α → DS → Prop} : (∃ r δ2, (if c then a else none) = some (r, δ2) ∧ Q r δ2) = (c ∧ ∃ r δ2, a = some (r, δ2) ∧ Q r δ2) := by
  by_cases h : c
  · rw [if_pos h]; exact propext ⟨fun q => ⟨h, q⟩, fun q => q.2⟩
  · rw [if_neg h, ex2n]; exact propext ⟨False.elim, fun q => h q.1⟩
/-! expressions -/
theorem e_cst {d : D} : GE (evCst d) δ Q = Q (.ok d) δ := ex2
theorem e_nil : GE evNil δ QA = QA (.ok []) δ := ex2
theorem e_yes : GE evYes δ QB = QB (.ok true) δ := ex2
theorem slC {β : Type} {i : Nat} {g : D → Option (β × DS)} {Q : β → DS → Prop} : (∃ r δ2, (match δ[i]? with | some (some d) => g d | _ => none) = some (r, δ2) ∧ Q r δ2) = sl δ i fun d => ∃ r δ2, g d = some (r, δ2) ∧ Q r δ2 := by
  unfold sl
  cases e : δ[i]? with
  | none => exact propext ⟨fun ⟨_, _, e, _⟩ => (by cases e), fun ⟨_, e, _⟩ => (by cases e)⟩
  | some o =>
    cases o with
    | none => exact propext ⟨fun ⟨_, _, e, _⟩ => (by cases e), fun ⟨_, e, _⟩ => (by cases e)⟩
    | some d => exact propext ⟨fun h => ⟨d, rfl, h⟩, fun ⟨_, e, h⟩ => (by cases e; exact h)⟩
theorem e_var {i : Nat} : GE (evVar i) δ Q = sl δ i fun d => Q (.ok d) δ := by
  refine Eq.trans (slC (β := RR D) (Q := Q) (δ := δ) (i := i) (g := fun d => some (.ok d, δ))) (congrArg _ (funext fun d => ex2))
theorem e_fv {i : Nat} : GE (evFv i) δ Q = sl δ i fun d => if isF d = true then Q (.ok d) δ else noL d = true ∧ Q (.ok (frz d)) (st δ i (some (frz d))) := by
  refine Eq.trans (slC (β := RR D) (Q := Q) (δ := δ) (i := i) (g := fun d => if isF d then some (.ok d, δ) else if noL d then some (.ok (frz d), δ.set i (some (frz d))) else none)) (congrArg _ (funext fun d => ?_))
  rw [iteC, ex2, iteN, ex2, st_eq]
theorem e_mv {i : Nat} : GE (evMv i) δ Q = sl δ i fun d => noL d = true ∧ Q (.ok d) (st δ i none) := by
  refine Eq.trans (slC (β := RR D) (Q := Q) (δ := δ) (i := i) (g := fun d => if noL d then some (.ok d, δ.set i none) else none)) (congrArg _ (funext fun d => ?_))
  rw [iteN, ex2, st_eq]
theorem e_cons {vw qr : Bool} {fa : DS → Option ER} {fr : DS → Option EA} : GE (evCons vw qr fa fr) δ QA = GE fa δ (kk (fun d δ1 => (vw && !qr && !isF d) = false ∧ GE fr δ1 (kk (fun ds δ2 => QA (.ok (d :: ds)) δ2) QA)) QA) := by
  refine Eq.trans (bindG (h := fun d δ1 => if vw && !qr && !isF d then none else match fr δ1 with | none => none | some (.ex x, δ2) => some (.ex x, δ2) | some (.ok ds, δ2) => some (.ok (d :: ds), δ2)) (by unfold evCons; rcases fa δ with _ | ⟨_ | _, _⟩ <;> rfl)) (congrArg _ (kkc fun d δ1 => ?_))
  have := bindG (f := fr) (f' := fun δ1 => match fr δ1 with | none => none | some (.ex x, δ2) => some (.ex x, δ2) | some (.ok ds, δ2) => some (.ok (d :: ds), δ2)) (h := fun ds δ2 => some (.ok (d :: ds), δ2)) (Q := QA) (δ := δ1) (by rcases fr δ1 with _ | ⟨_ | _, _⟩ <;> rfl)
  rw [show kk (fun ds δ2 => QA (.ok (d :: ds)) δ2) QA = kk (fun ds δ2 => ∃ r δ3, some (RR.ok (d :: ds), δ2) = some (r, δ3) ∧ QA r δ3) QA from kkc fun a b => ex2.symm, ← this]
  rw [iteC, ex2n]
  unfold GE
  cases vw && !qr && !isF d with
  | true => simp
  | false => simp
theorem e_dfr {i : Nat} {fr : DS → Option EA} : GE (evDefer i fr) δ QA = sl δ i fun _ => GE fr δ (kk (fun ds δ2 => sl δ2 i fun d => QA (.ok (d :: ds)) δ2) QA) := by
  refine Eq.trans (slC (β := RR (List D)) (Q := QA) (δ := δ) (i := i) (g := fun _ => match fr δ with | none => none | some (.ex x, δ2) => some (.ex x, δ2) | some (.ok ds, δ2) => match δ2[i]? with | some (some d) => some (.ok (d :: ds), δ2) | _ => none)) (congrArg _ (funext fun d => ?_))
  refine Eq.trans (bindG (f := fr) (f' := fun δ => match fr δ with | none => none | some (.ex x, δ2) => some (.ex x, δ2) | some (.ok ds, δ2) => match δ2[i]? with | some (some d) => some (.ok (d :: ds), δ2) | _ => none) (h := fun ds δ2 => match δ2[i]? with | some (some d) => some (.ok (d :: ds), δ2) | _ => none) (by rcases fr δ with _ | ⟨_ | _, _⟩ <;> rfl)) (congrArg _ (kkc fun ds δ2 => ?_))
  exact Eq.trans (slC (β := RR (List D)) (Q := QA) (δ := δ2) (i := i) (g := fun d => some (.ok (d :: ds), δ2))) (congrArg _ (funext fun d => ex2))
theorem e_op {g : List D → Option D} {fa : DS → Option EA} : GE (evOp g fa) δ Q = GE fa δ (kk (fun ds δ' => has (g ds) fun d => Q (.ok d) δ') Q) :=
  Eq.trans (bindG (h := fun ds δ' => match g ds with | none => none | some d => some (.ok d, δ')) (by unfold evOp; rcases fa δ with _ | ⟨_ | _, _⟩ <;> rfl)) (congrArg _ (kkc fun ds δ' => by generalize g ds = o; cases o with | none => rw [has_none]; exact ex2n | some a => rw [has_some]; exact ex2))
theorem e_tup {ks : List Bool} {fa : DS → Option EA} : GE (evTup ks fa) δ Q = GE fa δ (kk (fun ds δ' => (capOk ks ds && decide (ds.length ≤ 1000)) = true ∧ Q (.ok (.tup (ds.map cap))) δ') Q) :=
  Eq.trans (bindG (h := fun ds δ' => if capOk ks ds && decide (ds.length ≤ 1000) then some (.ok (.tup (ds.map cap)), δ') else none) (by unfold evTup; rcases fa δ with _ | ⟨_ | _, _⟩ <;> rfl)) (congrArg _ (kkc fun _ _ => by rw [iteN, ex2]))
theorem e_lst {ks : List Bool} {fa : DS → Option EA} : GE (evLst ks fa) δ Q = GE fa δ (kk (fun ds δ' => (capOk ks ds && decide (ds.length ≤ 1000)) = true ∧ Q (.ok (.lst .o (ds.map cap))) δ') Q) :=
  Eq.trans (bindG (h := fun ds δ' => if capOk ks ds && decide (ds.length ≤ 1000) then some (.ok (.lst .o (ds.map cap)), δ') else none) (by unfold evLst; rcases fa δ with _ | ⟨_ | _, _⟩ <;> rfl)) (congrArg _ (kkc fun _ _ => by rw [iteN, ex2]))
theorem e_tr {g : D → Option Bool} {f : DS → Option ER} : GE (evTr g f) δ QB = GE f δ (kk (fun d δ' => has (g d) fun b => QB (.ok b) δ') QB) :=
  Eq.trans (bindG (h := fun d δ' => match g d with | none => none | some b => some (.ok b, δ')) (by unfold evTr; rcases f δ with _ | ⟨_ | _, _⟩ <;> rfl)) (congrArg _ (kkc fun d δ' => by generalize g d = o; cases o with | none => rw [has_none]; exact ex2n | some a => rw [has_some]; exact ex2))
theorem e_notT {f : DS → Option EB} : GE (evNotT f) δ QB = GE f δ (kk (fun b δ' => QB (.ok (!b)) δ') QB) :=
  Eq.trans (bindG (h := fun b δ' => some (.ok (!b), δ')) (by unfold evNotT; rcases f δ with _ | ⟨_ | _, _⟩ <;> rfl)) (congrArg _ (kkc fun _ _ => ex2))
theorem e_andT {f g : DS → Option EB} : GE (evAndT f g) δ QB = GE f δ (kk (fun b δ' => if b = true then GE g δ' QB else QB (.ok false) δ') QB) :=
  Eq.trans (bindG (h := fun b δ' => if b = true then g δ' else some (.ok false, δ')) (by unfold evAndT; rcases f δ with _ | ⟨_ | _, _⟩ <;> rfl)) (congrArg _ (kkc fun _ _ => by rw [iteC, ex2]; rfl))
theorem e_orT {f g : DS → Option EB} : GE (evOrT f g) δ QB = GE f δ (kk (fun b δ' => if b = true then QB (.ok true) δ' else GE g δ' QB) QB) :=
  Eq.trans (bindG (h := fun b δ' => if b = true then some (.ok true, δ') else g δ') (by unfold evOrT; rcases f δ with _ | ⟨_ | _, _⟩ <;> rfl)) (congrArg _ (kkc fun _ _ => by rw [iteC, ex2]; rfl))
theorem hasB {β : Type} {o : Option Bool} {δ : DS} {g : Bool → Option (β × DS)} {Q : β → DS → Prop} : (∃ r δ2, (match o with | none => none | some a => g a) = some (r, δ2) ∧ Q r δ2) = has o fun a => ∃ r δ2, g a = some (r, δ2) ∧ Q r δ2 := by
  cases o with
  | none => rw [has_none]; exact ex2n
  | some a => rw [has_some]
theorem e_andV {f g : DS → Option ER} : GE (evAndV f g) δ Q = GE f δ (kk (fun d δ' => has (blD d) fun b => if b = true then GE g δ' Q else Q (.ok (.bl false)) δ') Q) :=
  Eq.trans (bindG (h := fun d δ' => match blD d with | none => none | some b => if b = true then g δ' else some (.ok (.bl false), δ')) (by unfold evAndV; rcases f δ with _ | ⟨_ | _, _⟩ <;> rfl)) (congrArg _ (kkc fun d δ' => by
    generalize blD d = o
    cases o with
    | none => rw [has_none]; exact ex2n
    | some b => rw [has_some]; refine Eq.trans iteC ?_; rw [ex2]; rfl))
theorem e_orV {f g : DS → Option ER} : GE (evOrV f g) δ Q = GE f δ (kk (fun d δ' => has (blD d) fun b => if b = true then Q (.ok (.bl true)) δ' else GE g δ' Q) Q) :=
  Eq.trans (bindG (h := fun d δ' => match blD d with | none => none | some b => if b = true then some (.ok (.bl true), δ') else g δ') (by unfold evOrV; rcases f δ with _ | ⟨_ | _, _⟩ <;> rfl)) (congrArg _ (kkc fun d δ' => by
    generalize blD d = o
    cases o with
    | none => rw [has_none]; exact ex2n
    | some b => rw [has_some]; refine Eq.trans iteC ?_; rw [ex2]; rfl))
theorem e_notV {f : DS → Option ER} : GE (evNotV f) δ Q = GE f δ (kk (fun d δ' => has (blD d) fun b => Q (.ok (.bl (!b))) δ') Q) :=
  Eq.trans (bindG (h := fun d δ' => match blD d with | none => none | some b => some (.ok (.bl (!b)), δ')) (by unfold evNotV; rcases f δ with _ | ⟨_ | _, _⟩ <;> rfl)) (congrArg _ (kkc fun d δ' => by generalize blD d = o; cases o with | none => rw [has_none]; exact ex2n | some a => rw [has_some]; exact ex2))
theorem e_opq {vw : Bool} {f : DS → Option ER} : GE (evOpq vw f) δ Q = GE f δ (kk (fun d δ' => (vw && !isF d) = false ∧ Q (.ok d) δ') Q) :=
  Eq.trans (bindG (h := fun d δ' => if vw && !isF d then none else some (.ok d, δ')) (by unfold evOpq; rcases f δ with _ | ⟨_ | _, _⟩ <;> rfl)) (congrArg _ (kkc fun d δ' => by rw [iteC, ex2n, ex2]; cases vw && !isF d <;> simp))
theorem e_if {t : DS → Option EB} {f g : DS → Option ER} : GE (evIf t f g) δ Q = GE t δ (kk (fun b δ' => if b = true then GE f δ' Q else GE g δ' Q) Q) :=
  Eq.trans (bindG (h := fun b δ' => if b = true then f δ' else g δ') (by unfold evIf; rcases t δ with _ | ⟨_ | _, _⟩ <;> rfl)) (congrArg _ (kkc fun _ _ => by rw [iteC]; rfl))
theorem e_call {F : FD} {ks : List Bool} {dds : List D} {fa : DS → Option EA} : GE (evCall F ks dds fa) δ Q = GE fa δ (kk (fun ds δ' => has (F (argD ks ds ++ dds)) fun r => Q r.1 δ') Q) :=
  Eq.trans (bindG (h := fun ds δ' => match F (argD ks ds ++ dds) with | none => none | some (.ex x, _) => some (.ex x, δ') | some (.ok d, _) => some (.ok d, δ')) (by unfold evCall; rcases fa δ with _ | ⟨_ | _, _⟩ <;> rfl)) (congrArg _ (kkc fun ds δ' => by
    cases e : F (argD ks ds ++ dds) with
    | none => rw [has_none]; exact ex2n
    | some r =>
      obtain ⟨r, δr⟩ := r
      rw [has_some]
      cases r with
      | ok d => exact ex2
      | ex x => exact ex2))
theorem e_callM {F : FD} {i : Nat} {ks : List Bool} {dds : List D} {fr : DS → Option EA} : GE (evCallM F i ks dds fr) δ Q = sl δ i fun _ => GE fr δ (kk (fun ds δ' => sl δ' i fun d => capOk ks ds = true ∧ has (F (d :: (ds.map cap ++ dds))) fun r => Q r.1 (st δ' i (hd0 r.2))) Q) := by
  refine Eq.trans (slC (β := RR D) (Q := Q) (δ := δ) (i := i) (g := fun _ => match fr δ with
    | none => none
    | some (.ex x, δ') => some (.ex x, δ')
    | some (.ok ds, δ') => match δ'[i]? with
      | some (some d) => if capOk ks ds then match F (d :: (ds.map cap ++ dds)) with
        | none => none
        | some (.ex x, δr) => some (.ex x, δ'.set i (hd0 δr))
        | some (.ok r, δr) => some (.ok r, δ'.set i (hd0 δr)) else none
      | _ => none)) (congrArg _ (funext fun d => ?_))
  refine Eq.trans (bindG (f := fr) (f' := fun δ => match fr δ with
    | none => none
    | some (.ex x, δ') => some (.ex x, δ')
    | some (.ok ds, δ') => match δ'[i]? with
      | some (some d) => if capOk ks ds then match F (d :: (ds.map cap ++ dds)) with
        | none => none
        | some (.ex x, δr) => some (.ex x, δ'.set i (hd0 δr))
        | some (.ok r, δr) => some (.ok r, δ'.set i (hd0 δr)) else none
      | _ => none) (h := fun ds δ' => match δ'[i]? with
      | some (some d) => if capOk ks ds then match F (d :: (ds.map cap ++ dds)) with
        | none => none
        | some (.ex x, δr) => some (.ex x, δ'.set i (hd0 δr))
        | some (.ok r, δr) => some (.ok r, δ'.set i (hd0 δr)) else none
      | _ => none) (by rcases fr δ with _ | ⟨_ | _, _⟩ <;> rfl)) (congrArg _ (kkc fun ds δ' => ?_))
  refine Eq.trans (slC (β := RR D) (Q := Q) (δ := δ') (i := i) (g := fun d => if capOk ks ds then match F (d :: (ds.map cap ++ dds)) with
        | none => none
        | some (.ex x, δr) => some (.ex x, δ'.set i (hd0 δr))
        | some (.ok r, δr) => some (.ok r, δ'.set i (hd0 δr)) else none)) (congrArg _ (funext fun d => ?_))
  rw [iteN]
  refine congrArg _ ?_
  cases e : F (d :: (ds.map cap ++ dds)) with
  | none => rw [has_none]; exact ex2n
  | some r =>
    obtain ⟨r, δr⟩ := r
    rw [has_some, ← st_eq]
    cases r with
    | ok d => exact ex2
    | ex x => exact ex2
theorem e_chain {g g' : List D → Option D} {fa fb fc : DS → Option ER} : GE (evChain g g' fa fb fc) δ Q = GE fa δ (kk (fun a δ1 => isF a = true ∧ GE fb δ1 (kk (fun b δ2 => isF b = true ∧ has (g [a, b]) fun d => has (blD d) fun k => if k = true then GE fc δ2 (kk (fun c δ3 => isF c = true ∧ has (g' [b, c]) fun d => has (blD d) fun k => Q (.ok (.bl k)) δ3) Q) else Q (.ok (.bl false)) δ2) Q)) Q) := by
  refine Eq.trans (bindG (f := fa) (h := fun a δ1 => if !isF a then none else match fb δ1 with
    | none => none
    | some (.ex x, δ2) => some (.ex x, δ2)
    | some (.ok b, δ2) => if !isF b then none else match g [a, b] with
      | some (.bl true) => match fc δ2 with
        | none => none
        | some (.ex x, δ3) => some (.ex x, δ3)
        | some (.ok c, δ3) => if !isF c then none else match g' [b, c] with
          | some (.bl k) => some (.ok (.bl k), δ3)
          | _ => none
      | some (.bl false) => some (.ok (.bl false), δ2)
      | _ => none) (by unfold evChain; rcases fa δ with _ | ⟨_ | _, _⟩ <;> rfl)) (congrArg _ (kkc fun a δ1 => ?_))
  rw [iteC, ex2n]
  cases hF : isF a with
  | false => simp
  | true =>
    rw [if_neg (by simp)]
    refine Eq.trans (bindG (α := D) (β := D) (Q := Q) (δ := δ1) (f := fb) (f' := fun δ1 => match fb δ1 with
    | none => none
    | some (.ex x, δ2) => some (.ex x, δ2)
    | some (.ok b, δ2) => if !isF b then none else match g [a, b] with
      | some (.bl true) => match fc δ2 with
        | none => none
        | some (.ex x, δ3) => some (.ex x, δ3)
        | some (.ok c, δ3) => if !isF c then none else match g' [b, c] with
          | some (.bl k) => some (.ok (.bl k), δ3)
          | _ => none
      | some (.bl false) => some (.ok (.bl false), δ2)
      | _ => none) (h := fun b δ2 => if !isF b then none else match g [a, b] with
      | some (.bl true) => match fc δ2 with
        | none => none
        | some (.ex x, δ3) => some (.ex x, δ3)
        | some (.ok c, δ3) => if !isF c then none else match g' [b, c] with
          | some (.bl k) => some (.ok (.bl k), δ3)
          | _ => none
      | some (.bl false) => some (.ok (.bl false), δ2)
      | _ => none) (by rcases fb δ1 with _ | ⟨_ | _, _⟩ <;> rfl)) (by
      rw [show (true = true) = True from by simp, true_and]
      refine congrArg _ (kkc fun b δ2 => ?_)
      rw [iteC, ex2n]
      cases hF : isF b with
      | false => simp
      | true =>
        rw [if_neg (by simp)]
        rw [show (true = true) = True from by simp, true_and]
        cases e : g [a, b] with
        | none => rw [has_none]; exact ex2n
        | some d =>
          rw [has_some]
          cases d with
          | bl k =>
            show _ = has (some k) _
            rw [has_some]
            cases k with
            | false => rw [if_neg Bool.false_ne_true]; exact ex2
            | true =>
              rw [if_pos rfl]
              refine Eq.trans (bindG (α := D) (β := D) (Q := Q) (δ := δ2) (f := fc) (f' := fun δ2 => match fc δ2 with
                | none => none
                | some (.ex x, δ3) => some (.ex x, δ3)
                | some (.ok c, δ3) => if !isF c then none else match g' [b, c] with
                  | some (.bl k) => some (.ok (.bl k), δ3)
                  | _ => none) (h := fun c δ3 => if !isF c then none else match g' [b, c] with
                  | some (.bl k) => some (.ok (.bl k), δ3)
                  | _ => none) (by rcases fc δ2 with _ | ⟨_ | _, _⟩ <;> rfl)) (congrArg _ (kkc fun c δ3 => ?_))
              rw [iteC, ex2n]
              cases hF : isF c with
              | false => simp
              | true =>
                rw [if_neg (by simp)]
                rw [show (true = true) = True from by simp, true_and]
                cases e : g' [b, c] with
                | none => rw [has_none]; exact ex2n
                | some d =>
                  rw [has_some]
                  cases d with
                  | bl k => show _ = has (some k) _; rw [has_some]; exact ex2
                  | _ => show _ = has none _; rw [has_none]; exact ex2n
          | _ => show _ = has none _; rw [has_none]; exact ex2n)
theorem hasA {α β : Type} {o : Option α} {δ : DS} {g : α → Option (β × DS)} {Q : β → DS → Prop} : (∃ r δ2, (match o with | none => none | some a => g a) = some (r, δ2) ∧ Q r δ2) = has o fun a => ∃ r δ2, g a = some (r, δ2) ∧ Q r δ2 := by
  cases o with
  | none => rw [has_none]; exact ex2n
  | some a => rw [has_some]
theorem e_src {rt : Option Nat} {vw : Bool} {f : DS → Option ER} : GE (evSrc rt vw f) δ QI = GE f δ (kk (fun d δ' => has (itemsOf d) fun xs => if (vw && owned d) = true then has rt fun i => QI (.ok (.lent i d xs)) (st δ' i (some (lend d))) else QI (.ok (.all xs)) δ') QI) := by
  refine Eq.trans (bindG (f := f) (h := fun d δ' => match itemsOf d with
    | none => none
    | some xs => if vw && owned d then match rt with
        | none => none
        | some i => some (.ok (.lent i d xs), δ'.set i (some (lend d)))
      else some (.ok (.all xs), δ')) (by unfold evSrc; rcases f δ with _ | ⟨_ | _, _⟩ <;> rfl)) (congrArg _ (kkc fun d δ' => ?_))
  cases itemsOf d with
  | none => rw [has_none]; exact ex2n
  | some xs =>
    rw [has_some]
    cases vw && owned d with
    | false => exact ex2
    | true =>
      cases rt with
      | none => rw [has_none]; exact ex2n
      | some i => rw [has_some, ← st_eq]; exact ex2
theorem e_rng {g : List D → Option (List D)} {f : DS → Option EA} : GE (evRng g f) δ QI = GE f δ (kk (fun ds δ' => has (g ds) fun xs => QI (.ok (.all xs)) δ') QI) :=
  Eq.trans (bindG (h := fun ds δ' => match g ds with | none => none | some xs => some (.ok (.all xs), δ')) (by unfold evRng; rcases f δ with _ | ⟨_ | _, _⟩ <;> rfl)) (congrArg _ (kkc fun ds δ' => by generalize g ds = o; cases o with | none => rw [has_none]; exact ex2n | some a => rw [has_some]; exact ex2))
theorem e_lc {fs : DS → Option EI} {tg : D → DS → Option DS} {t : DS → Option EB} {f : DS → Option ER} {vs : List Nat} : GE (evLc fs tg t f vs) δ Q = GE fs δ (kk (fun s δ' => has (evCmp tg t f vs (srItems s) [] (wipeD vs δ')) fun r => Q (.ok (.lst .o r.1)) (srBack s (backD vs δ' r.2))) Q) :=
  Eq.trans (bindG (h := fun s δ' => match evCmp tg t f vs (srItems s) [] (wipeD vs δ') with | none => none | some (acc, δ2) => some (.ok (.lst .o acc), srBack s (backD vs δ' δ2))) (by unfold evLc; rcases fs δ with _ | ⟨_ | _, _⟩ <;> rfl)) (congrArg _ (kkc fun s δ' => by
    cases e : evCmp tg t f vs (srItems s) [] (wipeD vs δ') with
    | none => rw [has_none]; exact ex2n
    | some r => rw [has_some]; exact ex2))
/-! statements -/
def kQ (k : DS → Prop) (Q : Out → DS → Prop) : Out → DS → Prop
  | .nx, δ => k δ
  | o, δ => Q o δ
theorem kQ_nx {k : DS → Prop} {Q : Out → DS → Prop} : kQ k Q .nx δ = k δ := rfl
theorem kQ_rt {k : DS → Prop} {Q : Out → DS → Prop} {d : D} : kQ k Q (.rt d) δ = Q (.rt d) δ := rfl
theorem kQ_ex {k : DS → Prop} {Q : Out → DS → Prop} {d : Xc} : kQ k Q (.ex d) δ = Q (.ex d) δ := rfl
theorem kQ_bk {k : DS → Prop} {Q : Out → DS → Prop} : kQ k Q .bk δ = Q .bk δ := rfl
theorem kQ_ct {k : DS → Prop} {Q : Out → DS → Prop} : kQ k Q .ct δ = Q .ct δ := rfl
theorem g_nx : Go evNx δ QS = QS .nx δ := ex2
theorem g_retN : Go evRetN δ QS = QS (.rt .non) δ := ex2
theorem g_brk : Go evBrk δ QS = QS .bk δ := ex2
theorem g_cnt : Go evCnt δ QS = QS .ct δ := ex2
theorem g_seq {f g : DS → Option ES} : Go (evSeq f g) δ QS = Go f δ (kQ (fun δ' => Go g δ' QS) QS) := by
  unfold Go evSeq
  cases e : f δ with
  | none => simp
  | some w =>
    obtain ⟨o, δ1⟩ := w
    cases o with
    | nx => exact propext ⟨fun h => ⟨_, _, rfl, h⟩, fun ⟨_, _, e, h⟩ => (by cases e; exact h)⟩
    | bk => exact propext ⟨fun ⟨_, _, e, h⟩ => (by cases e; exact ⟨_, _, rfl, h⟩), fun ⟨_, _, e, h⟩ => (by cases e; exact ⟨_, _, rfl, h⟩)⟩
    | ct => exact propext ⟨fun ⟨_, _, e, h⟩ => (by cases e; exact ⟨_, _, rfl, h⟩), fun ⟨_, _, e, h⟩ => (by cases e; exact ⟨_, _, rfl, h⟩)⟩
    | rt d => exact propext ⟨fun ⟨_, _, e, h⟩ => (by cases e; exact ⟨_, _, rfl, h⟩), fun ⟨_, _, e, h⟩ => (by cases e; exact ⟨_, _, rfl, h⟩)⟩
    | ex x => exact propext ⟨fun ⟨_, _, e, h⟩ => (by cases e; exact ⟨_, _, rfl, h⟩), fun ⟨_, _, e, h⟩ => (by cases e; exact ⟨_, _, rfl, h⟩)⟩
theorem g_drop {f : DS → Option ER} : Go (evDrop f) δ QS = GE f δ (kS (fun _ δ' => QS .nx δ') QS) := Eq.trans (bindS (h := fun _ δ' => some (.nx, δ')) (by unfold evDrop; rcases f δ with _ | ⟨_ | _, _⟩ <;> rfl)) (congrArg _ (kSc fun _ _ => ex2))
theorem g_ret {f : DS → Option ER} : Go (evRet f) δ QS = GE f δ (kS (fun d δ' => QS (.rt d) δ') QS) := Eq.trans (bindS (h := fun d δ' => some (.rt d, δ')) (by unfold evRet; rcases f δ with _ | ⟨_ | _, _⟩ <;> rfl)) (congrArg _ (kSc fun _ _ => ex2))
theorem g_asg {i : Nat} {f : DS → Option ER} : Go (evAsg i f) δ QS = GE f δ (kS (fun d δ' => QS .nx (st δ' i (some d))) QS) := Eq.trans (bindS (h := fun d δ' => some (.nx, δ'.set i (some d))) (by unfold evAsg; rcases f δ with _ | ⟨_ | _, _⟩ <;> rfl)) (congrArg _ (kSc fun _ _ => by rw [st_eq]; exact ex2))
theorem g_if {t : DS → Option EB} {f g : DS → Option ES} : Go (evIfS t f g) δ QS = GE t δ (kS (fun b δ' => if b = true then Go f δ' QS else Go g δ' QS) QS) := Eq.trans (bindS (h := fun b δ' => if b = true then f δ' else g δ') (by unfold evIfS; rcases t δ with _ | ⟨_ | _, _⟩ <;> rfl)) (congrArg _ (kSc fun _ _ => by rw [iteC]; rfl))
theorem g_for {fs : DS → Option EI} {tg : D → DS → Option DS} {body : DS → Option ES} : Go (evFor fs tg body) δ QS = GE fs δ (kS (fun s δ' => has (evForL tg body (srItems s) δ') fun r => QS r.1 (srBack s r.2)) QS) :=
  Eq.trans (bindS (h := fun s δ' => match evForL tg body (srItems s) δ' with | none => none | some (o, δ2) => some (o, srBack s δ2)) (by unfold evFor; rcases fs δ with _ | ⟨_ | _, _⟩ <;> rfl)) (congrArg _ (kSc fun s δ' => by
    cases e : evForL tg body (srItems s) δ' with
    | none => rw [has_none]; exact ex2n
    | some r => rw [has_some]; exact ex2))
def isLst : D → Bool
  | .lst _ _ => true
  | _ => false
def lstO : D → Option (List D)
  | .lst .o xs => some xs
  | _ => none
theorem g_app {i : Nat} {f : DS → Option ER} : Go (evApp i f) δ QS = sl δ i fun d0 => isLst d0 = true ∧ GE f δ (kS (fun d δ' => sl δ' i fun d1 => has (lstO d1) fun xs => xs.length < 1000000 ∧ QS .nx (st δ' i (some (.lst .o (xs ++ [cap d]))))) QS) := by
  have inner : ∀ (d : D) (δ' : DS), (∃ r δ2, (match δ'[i]? with
      | some (some (.lst .o xs)) => if xs.length < 1000000 then some (Out.nx, δ'.set i (some (.lst .o (xs ++ [cap d])))) else none
      | _ => none) = some (r, δ2) ∧ QS r δ2) = sl δ' i fun d1 => has (lstO d1) fun xs => xs.length < 1000000 ∧ QS .nx (st δ' i (some (.lst .o (xs ++ [cap d])))) := fun d δ' => by
    unfold sl
    cases e : δ'[i]? with
    | none => exact Eq.trans ex2n (propext ⟨False.elim, fun ⟨_, e, _⟩ => (by cases e)⟩)
    | some o =>
      cases o with
      | none => exact Eq.trans ex2n (propext ⟨False.elim, fun ⟨_, e, _⟩ => (by cases e)⟩)
      | some d1 =>
        refine Eq.trans ?_ (show has (lstO d1) _ = _ from propext ⟨fun h => ⟨d1, rfl, h⟩, fun ⟨_, e, h⟩ => (by cases e; exact h)⟩)
        cases d1 with
        | lst m xs =>
          cases m with
          | o => rw [show lstO (.lst .o xs) = some xs from rfl, has_some, ← st_eq]; exact Eq.trans iteN (congrArg _ ex2)
          | _ => rw [show lstO _ = none from rfl, has_none]; exact ex2n
        | _ => rw [show lstO _ = none from rfl, has_none]; exact ex2n
  have mid : ∀ g : DS → Option ES, g = (fun δ => match f δ with
      | none => none
      | some (.ex x, δ') => some (.ex x, δ')
      | some (.ok d, δ') => match δ'[i]? with
        | some (some (.lst .o xs)) => if xs.length < 1000000 then some (.nx, δ'.set i (some (.lst .o (xs ++ [cap d])))) else none
        | _ => none) → Go g δ QS = GE f δ (kS (fun d δ' => sl δ' i fun d1 => has (lstO d1) fun xs => xs.length < 1000000 ∧ QS .nx (st δ' i (some (.lst .o (xs ++ [cap d]))))) QS) := fun g eg => by
    subst eg
    exact Eq.trans (bindS (f := f) (h := fun d δ' => match δ'[i]? with
        | some (some (.lst .o xs)) => if xs.length < 1000000 then some (.nx, δ'.set i (some (.lst .o (xs ++ [cap d])))) else none
        | _ => none) (by rcases f δ with _ | ⟨_ | _, _⟩ <;> rfl)) (congrArg _ (kSc fun d δ' => inner d δ'))
  rw [← mid _ rfl]
  unfold Go evApp sl
  cases e : δ[i]? with
  | none => exact Eq.trans ex2n (propext ⟨False.elim, fun ⟨_, e, _⟩ => (by cases e)⟩)
  | some o =>
    cases o with
    | none => exact Eq.trans ex2n (propext ⟨False.elim, fun ⟨_, e, _⟩ => (by cases e)⟩)
    | some d1 =>
      cases d1 with
      | lst m xs => exact propext ⟨fun h => ⟨_, rfl, rfl, h⟩, fun ⟨_, e, _, h⟩ => h⟩
      | _ => exact Eq.trans ex2n (propext ⟨False.elim, fun ⟨_, e, q, _⟩ => (by cases e; exact Bool.noConfusion q)⟩)
def setK (i : Nat) (d kd : D) (δ2 : DS) : Option ES := match kd, δ2[i]? with
  | .int k, some (some (.lst .o xs)) => match ixN xs.length k with
    | some j => some (.nx, δ2.set i (some (.lst .o (xs.set j (cap d)))))
    | none => none
  | _, _ => none
theorem g_set {i : Nat} {f fk : DS → Option ER} : Go (evSet i f fk) δ QS = GE f δ (kS (fun d δ' => sl δ' i fun _ => GE fk δ' (kS (fun kd δ2 => has (intD kd) fun k => sl δ2 i fun d1 => has (lstO d1) fun xs => has (ixN xs.length k) fun j => QS .nx (st δ2 i (some (.lst .o (xs.set j (cap d)))))) QS)) QS) := by
  have inner : ∀ (d kd : D) (δ2 : DS), (∃ r δ3, setK i d kd δ2 = some (r, δ3) ∧ QS r δ3) = has (intD kd) fun k => sl δ2 i fun d1 => has (lstO d1) fun xs => has (ixN xs.length k) fun j => QS .nx (st δ2 i (some (.lst .o (xs.set j (cap d))))) := fun d kd δ2 => by
    unfold setK
    cases kd with
    | int k =>
      rw [show intD (.int k) = some k from rfl, has_some]
      unfold sl
      cases e : δ2[i]? with
      | none => exact Eq.trans ex2n (propext ⟨False.elim, fun ⟨_, e, _⟩ => (by cases e)⟩)
      | some o =>
        cases o with
        | none => exact Eq.trans ex2n (propext ⟨False.elim, fun ⟨_, e, _⟩ => (by cases e)⟩)
        | some d1 =>
          refine Eq.trans ?_ (show has (lstO d1) _ = _ from propext ⟨fun h => ⟨d1, rfl, h⟩, fun ⟨_, e, h⟩ => (by cases e; exact h)⟩)
          cases d1 with
          | lst m xs =>
            cases m with
            | o =>
              rw [show lstO (.lst .o xs) = some xs from rfl, has_some]
              show (∃ r δ3, (match ixN xs.length k with | some j => some (Out.nx, δ2.set i (some (.lst .o (xs.set j (cap d))))) | none => none) = some (r, δ3) ∧ QS r δ3) = _
              cases ixN xs.length k with
              | none => rw [has_none]; exact ex2n
              | some j => rw [has_some, ← st_eq]; exact ex2
            | _ => rw [show lstO _ = none from rfl, has_none]; exact ex2n
          | _ => rw [show lstO _ = none from rfl, has_none]; exact ex2n
    | _ => rw [show intD _ = none from rfl, has_none]; exact ex2n
  refine Eq.trans (bindS (f := f) (h := fun d δ' => match δ'[i]? with
    | some (some _) => match fk δ' with
      | none => none
      | some (.ex x, δ2) => some (.ex x, δ2)
      | some (.ok kd, δ2) => setK i d kd δ2
    | _ => none) (by
      unfold evSet
      rcases f δ with _ | ⟨d | _, δ'⟩
      · rfl
      · dsimp only
        generalize δ'[i]? = o
        rcases o with _ | _ | _
        · rfl
        · rfl
        · dsimp only
          generalize fk δ' = q
          rcases q with _ | ⟨kd | _, δ2⟩ <;> rfl
      · rfl)) (congrArg _ (kSc fun d δ' => ?_))
  have mid : ∀ g : DS → Option ES, g = (fun δ' => match fk δ' with
      | none => none
      | some (.ex x, δ2) => some (.ex x, δ2)
      | some (.ok kd, δ2) => setK i d kd δ2) → Go g δ' QS = GE fk δ' (kS (fun kd δ2 => has (intD kd) fun k => sl δ2 i fun d1 => has (lstO d1) fun xs => has (ixN xs.length k) fun j => QS .nx (st δ2 i (some (.lst .o (xs.set j (cap d)))))) QS) := fun g eg => by
    subst eg
    exact Eq.trans (bindS (f := fk) (h := fun kd δ2 => setK i d kd δ2) (by rcases fk δ' with _ | ⟨_ | _, _⟩ <;> rfl)) (congrArg _ (kSc fun kd δ2 => inner d kd δ2))
  rw [← mid _ rfl]
  unfold Go sl
  cases e : δ'[i]? with
  | none => exact Eq.trans ex2n (propext ⟨False.elim, fun ⟨_, e, _⟩ => (by cases e)⟩)
  | some o =>
    cases o with
    | none => exact Eq.trans ex2n (propext ⟨False.elim, fun ⟨_, e, _⟩ => (by cases e)⟩)
    | some d1 => exact propext ⟨fun h => ⟨_, rfl, h⟩, fun ⟨_, e, h⟩ => h⟩
/-! functions -/
theorem fn_go {n np : Nat} {m : Bool} {ev : DS → Option ES} {ds : List D} {r : ER} (hl : ds.length = np) (h : Go ev (ds.map some ++ List.replicate (n - np) none) fun o δ => (match o with | .rt d => some (.ok d, outD np m δ) | .nx => some (.ok .non, outD np m δ) | .ex x => some (.ex x, outD np m δ) | _ => none) = some r) : fnOf n np m ev ds = some r := by
  obtain ⟨o, δ', e, q⟩ := h
  unfold fnOf
  rw [if_pos hl, e]
  cases o <;> exact q
end
end PD
/-! P, part 19: what the operations give, told for the simplifier. -/
namespace PD
open PySem L2
section
variable {i j : Int} {a b : Bool} {m : Fl} {xs ys : List D} {d x : D} {z : Str}
theorem v_add : gAdd [.int i, .int j] = some (.int (i + j)) := rfl
theorem v_sub : gSub [.int i, .int j] = some (.int (i - j)) := rfl
theorem v_mod (h : 0 < j) : gMod [.int i, .int j] = some (.int (i % j)) := if_pos h
theorem v_div (h : 0 < j ∧ j < 1073741824) : gDiv [.int i, .int j] = some (.int (i / j)) := if_pos h
theorem v_mul (h : mulOk i j = true) : gMul [.int i, .int j] = some (.int (i * j)) := if_pos h
theorem v_neg : gNeg [.int i] = some (.int (-i)) := rfl
theorem v_lt : gLt [.int i, .int j] = some (.bl (decide (i < j))) := rfl
theorem v_le : gLe [.int i, .int j] = some (.bl (decide (i ≤ j))) := rfl
theorem v_gt : gGt [.int i, .int j] = some (.bl (decide (j < i))) := rfl
theorem v_ge : gGe [.int i, .int j] = some (.bl (decide (j ≤ i))) := rfl
theorem v_eqi : gEq [.int i, .int j] = some (.bl (decide (i = j))) := by
  show some (D.bl (eqD (.int i) (.int j))) = _
  have : eqD (.int i) (.int j) = decide (i = j) := by
    unfold eqD toP
    rw [Bool.eq_iff_iff]
    simp [PyData.eqv]
  rw [this]
theorem v_nei : gNe [.int i, .int j] = some (.bl (!decide (i = j))) := by
  have : eqD (.int i) (.int j) = decide (i = j) := by
    unfold eqD toP
    rw [Bool.eq_iff_iff]
    simp [PyData.eqv]
  show some (D.bl (!eqD (.int i) (.int j))) = _
  rw [this]
theorem v_is : gIs [d, .non] = some (.bl (isNon d)) := rfl
theorem v_isNot : gIsNot [d, .non] = some (.bl (!isNon d)) := rfl
theorem v_len : gLen [.lst m xs] = some (.int xs.length) := rfl
theorem v_lenT : gLen [.tup xs] = some (.int xs.length) := rfl
theorem v_abs : gAbs [.int i] = some (.int (if i < 0 then -i else i)) := rfl
theorem v_int : gIntOf [.int i] = some (.int i) := rfl
theorem v_item : gItem [.lst m xs, .int i] = (atI xs i).bind fun d => if isF d then some d else none := rfl
theorem v_itemT : gItem [.tup xs, .int i] = atI xs i := rfl
theorem v_list : gList [.lst m xs] = if shal m then some (.lst .o xs) else none := rfl
theorem v_max : gMax2 [.int i, .int j] = some (.int (max i j)) := by
  show some (D.int (if j > i then j else i)) = _
  have : (if j > i then j else i) = max i j := by split <;> omega
  rw [this]
theorem v_min : gMin2 [.int i, .int j] = some (.int (min i j)) := by
  show some (D.int (if j < i then j else i)) = _
  have : (if j < i then j else i) = min i j := by split <;> omega
  rw [this]
theorem mulL (h : (decide (-(2 ^ 64) < i) && decide (i < 2 ^ 64)) = true) : mulOk i j = true := by unfold mulOk; rw [h]; rfl
theorem at_0 {x : D} : L2.atI (x :: xs) 0 = some x := by
  unfold L2.atI L2.ixN
  rw [if_pos (by omega), if_pos (by simp <;> omega)]; rfl
theorem at_1 {x y : D} : L2.atI (x :: y :: xs) 1 = some y := by
  unfold L2.atI L2.ixN
  rw [if_pos (by omega), if_pos (by simp; omega)]; rfl
theorem at_2 {x y w : D} : L2.atI (x :: y :: w :: xs) 2 = some w := by
  unfold L2.atI L2.ixN
  rw [if_pos (by omega), if_pos (by simp; omega)]; rfl
theorem at_nat {k : Nat} (h : k < xs.length) : L2.atI xs (k : Int) = some xs[k] := by
  unfold L2.atI L2.ixN
  rw [if_pos (by omega), if_pos (by omega)]
  simp [h]
theorem at_last {x : D} : L2.atI (xs ++ [x]) (-1) = some x := by
  unfold L2.atI L2.ixN
  rw [if_neg (by omega), if_pos (by simp <;> omega)]
  have : (-1 + ((xs ++ [x]).length : Int)).toNat = xs.length := by simp; omega
  simp only [Option.bind_some, this]
  simp
theorem ixN_last {n : Nat} : ixN (n + 1) (-1) = some n := by
  unfold L2.ixN
  rw [if_neg (by omega), if_pos (by omega)]
  have : (-1 + ((n + 1 : Nat) : Int)).toNat = n := by omega
  rw [this]
theorem ixN_lit {n k : Nat} (h : k < n) : ixN n (k : Int) = some k := by
  unfold L2.ixN
  rw [if_pos (by omega), if_pos (by omega)]; rfl
theorem ix_0 {x : D} : L2.ixN (x :: xs).length 0 = some 0 := by
  unfold L2.ixN
  rw [if_pos (by omega), if_pos (by simp <;> omega)]; rfl
theorem ix_1 {x y : D} : L2.ixN (x :: y :: xs).length 1 = some 1 := by
  unfold L2.ixN
  rw [if_pos (by omega), if_pos (by simp <;> omega)]; rfl
theorem ix_2 {x y w : D} : L2.ixN (x :: y :: w :: xs).length 2 = some 2 := by
  unfold L2.ixN
  rw [if_pos (by omega), if_pos (by simp <;> omega)]; rfl
theorem cap_i : cap (.int i) = .int i := rfl
theorem cap_t : cap (.tup xs) = .tup xs := rfl
theorem noL_i : noL (.int i) = true := rfl
theorem noL_n : noL .non = true := rfl
theorem noL_b : noL (.bl a) = true := rfl
theorem noL_t : noL (.tup xs) = true := rfl
theorem ck_0 {ds : List D} : capOk [] ds = true := by unfold capOk; rfl
theorem ck_s {k : Bool} {ks : List Bool} {d : D} {ds : List D} : capOk (k :: ks) (d :: ds) = ((!k || isF d) && capOk ks ds) := rfl
theorem lk_0 : decide (([] : List D).length ≤ 1000) = true := rfl
theorem lk_1 {x : D} : decide ([x].length ≤ 1000) = true := rfl
theorem lk_2 {x y : D} : decide ([x, y].length ≤ 1000) = true := rfl
theorem lk_3 {x y w : D} : decide ([x, y, w].length ≤ 1000) = true := rfl
theorem lk_4 {x y w u : D} : decide ([x, y, w, u].length ≤ 1000) = true := rfl
theorem ln_0 : (([] : List D).length ≤ 1000) = True := eq_true (Nat.zero_le _)
theorem ln_1 {x : D} : ([x].length ≤ 1000) = True := eq_true (by simp)
theorem ln_2 {x y : D} : ([x, y].length ≤ 1000) = True := eq_true (by simp)
theorem ln_3 {x y w : D} : ([x, y, w].length ≤ 1000) = True := eq_true (by simp)
theorem ln_4 {x y w u : D} : ([x, y, w, u].length ≤ 1000) = True := eq_true (by simp)
theorem own_o : owned (.lst .o xs) = true := rfl
theorem its_o : itemsOf (.lst .o xs) = some xs := rfl
theorem its_l : itemsOf (.lst .l xs) = some xs := rfl
theorem its_f : itemsOf (.lst .f xs) = some xs := rfl
theorem own_l : owned (.lst .l xs) = false := rfl
theorem own_f : owned (.lst .f xs) = false := rfl
theorem lend_o : lend (.lst .o xs) = .lst .l xs := rfl
theorem lend_i : lend (.int i) = .int i := rfl
theorem lend_b : lend (.bl a) = .bl a := rfl
theorem lend_n : lend .non = .non := rfl
theorem lend_s : lend (.str z) = .str z := rfl
theorem lend_t : lend (.tup xs) = .tup xs := rfl
theorem cap_o : cap (.lst .o xs) = .lst .f xs := rfl
theorem cap_k : cap (.lst .k xs) = .lst .k xs := rfl
theorem cap_f : cap (.lst .f xs) = .lst .f xs := rfl
theorem lend_l : lend (.lst .l xs) = .lst .l xs := rfl
theorem lend_f : lend (.lst .f xs) = .lst .f xs := rfl
theorem sh_o : shal .o = true := rfl
theorem sh_l : shal .l = true := rfl
theorem sh_f : shal .f = true := rfl
theorem sh_k : shal .k = true := rfl
theorem bind_S {α β : Type} {a : α} {f : α → Option β} : (some a).bind f = f a := rfl
theorem v_repr : gRepr [.bl a] = some (.str (Str.ofString (if a then "True" else "False"))) := rfl
theorem blD_bl : blD (.bl a) = some a := rfl
theorem truD_bl : truD (.bl a) = some a := rfl
theorem truD_lst : truD (.lst m xs) = some (!xs.isEmpty) := rfl
theorem itemsOf_lst (h : shal m = true) : itemsOf (.lst m xs) = some xs := if_pos h
theorem isF_int : isF (.int i) = true := rfl
theorem isF_bl : isF (.bl a) = true := rfl
theorem isF_non : isF .non = true := rfl
theorem isF_tup : isF (.tup xs) = true := rfl
theorem isF_str : isF (.str z) = true := rfl
theorem isF_lf : isF (.lst .f xs) = true := rfl
theorem isF_lk : isF (.lst .k xs) = true := rfl
theorem isF_lo : isF (.lst .o xs) = false := rfl
theorem isF_ll : isF (.lst .l xs) = false := rfl
theorem cap_F (h : isF d = true) : cap d = d := if_pos h
theorem lend_F {d : D} (h : isF d = true) : lend d = d := by
  cases d with
  | lst m xs => cases m <;> first | rfl | (exact absurd (show false = true from h) Bool.false_ne_true)
  | dic m xs => cases m <;> first | rfl | (exact absurd (show false = true from h) Bool.false_ne_true)
  | dit m xs => cases m <;> first | rfl | (exact absurd (show false = true from h) Bool.false_ne_true)
  | ins m c xs => cases m <;> first | rfl | (exact absurd (show false = true from h) Bool.false_ne_true)
  | _ => rfl
end
/-! loops -/
def kL (k : DS → Prop) (K : ES → Prop) : Out → DS → Prop
  | .nx, δ => k δ
  | .ct, δ => k δ
  | .bk, δ => K (.nx, δ)
  | .rt v, δ => K (.rt v, δ)
  | .ex x, δ => K (.ex x, δ)
section
variable {k : DS → Prop} {K : ES → Prop} {δ : DS} {d : D} {ds : List D} {is : List Nat} {n : Nat}
theorem kL_nx : kL k K .nx δ = k δ := rfl
theorem kL_ct : kL k K .ct δ = k δ := rfl
theorem kL_bk : kL k K .bk δ = K (.nx, δ) := rfl
theorem kL_rt : kL k K (.rt d) δ = K (.rt d, δ) := rfl
theorem forL_0 {tg : D → DS → Option DS} {body : DS → Option ES} : has (evForL tg body [] δ) K = K (.nx, δ) := has_some
theorem forL_s {tg : D → DS → Option DS} {body : DS → Option ES} {r : List D} : has (evForL tg body (d :: r) δ) K = has (tg d δ) fun δ1 => Go body δ1 (kL (fun δ2 => has (evForL tg body r δ2) K) K) := by
  rw [evForL]
  cases tg d δ with
  | none => rw [has_none]; exact has_none.symm
  | some δ1 =>
    rw [has_some]
    unfold Go
    show has (match body δ1 with | none => none | some (.nx, δ2) => evForL tg body r δ2 | some (.ct, δ2) => evForL tg body r δ2 | some (.bk, δ2) => some (.nx, δ2) | some (.rt v, δ2) => some (.rt v, δ2) | some (.ex x, δ2) => some (.ex x, δ2)) K = _
    cases body δ1 with
    | none => exact Eq.trans has_none (propext ⟨False.elim, fun ⟨_, _, e, _⟩ => (by cases e)⟩)
    | some w =>
      obtain ⟨o, δ2⟩ := w
      refine Eq.trans ?_ (show kL (fun δ2 => has (evForL tg body r δ2) K) K o δ2 = _ from propext ⟨fun h => ⟨_, _, rfl, h⟩, fun ⟨_, _, e, h⟩ => (by cases e; exact h)⟩)
      cases o with
      | nx => rfl
      | ct => rfl
      | bk => exact has_some
      | rt v => exact has_some
      | ex x => exact has_some
theorem tg_n {i : Nat} : tgName i d δ = some (st δ i (some d)) := by unfold tgName; rw [st_eq]
theorem tg_t {xs : List D} : tgTup is (.tup xs) δ = tgNames is xs δ := rfl
theorem tg_0 : tgNames [] [] δ = some δ := rfl
theorem tg_s {i : Nat} : tgNames (i :: is) (d :: ds) δ = tgNames is ds (st δ i (some d)) := by rw [tgNames, st_eq]
theorem wp_0 : wipeD [] δ = δ := rfl
theorem wp_s {v : Nat} {vs : List Nat} : wipeD (v :: vs) δ = st (wipeD vs δ) v none := by rw [wipeD, st_eq]
/-- what slot i holds, or nothing -/
def rd : DS → Nat → Option D
  | [], _ => none
  | o :: _, 0 => o
  | _ :: δ, i + 1 => rd δ i
theorem rd_eq : ∀ (δ : DS) (i : Nat), (δ[i]?).getD none = rd δ i
  | [], _ => rfl
  | o :: _, 0 => rfl
  | _ :: δ, i + 1 => by rw [List.getElem?_cons_succ]; exact rd_eq δ i
theorem rd_0 {o : Option D} : rd (o :: δ) 0 = o := rfl
theorem rd_s {o : Option D} {i : Nat} : rd (o :: δ) (i + 1) = rd δ i := rfl
theorem bk_0 {δ0 : DS} : backD [] δ0 δ = δ := rfl
theorem bk_s {δ0 : DS} {v : Nat} {vs : List Nat} : backD (v :: vs) δ0 δ = st (backD vs δ0 δ) v (rd δ0 v) := by rw [backD, st_eq, rd_eq]
theorem hd_0 {o : Option D} : hd0 (o :: δ) = o := rfl
theorem sb_a {xs : List D} : srBack (.all xs) δ = δ := rfl
theorem sb_l {xs : List D} {i : Nat} : srBack (.lent i d xs) δ = st δ i (some d) := by
  show δ.set i (some d) = _
  rw [st_eq]
theorem si_a {xs : List D} : srItems (.all xs) = xs := rfl
theorem si_l {xs : List D} {i : Nat} : srItems (.lent i d xs) = xs := rfl
theorem out_t : outD n true δ = hd0 δ :: List.replicate (n - 1) none := rfl
theorem out_f : outD n false δ = List.replicate n none := rfl
/-- a comprehension that changes nothing -/
theorem cmp_pure {tg : D → DS → Option DS} {t : DS → Option EB} {f : DS → Option ER} {vs : List Nat} {p : D → Bool} {h : D → D} : ∀ (xs acc : List D), acc.length + xs.length ≤ 1000000 →
    (∀ d ∈ xs, has (tg d δ) fun δ1 => GE t δ1 fun r δ2 => r = .ok (p d) ∧ if p d = true then (GE f δ2 fun r δ3 => r = .ok (h d) ∧ wipeD vs δ3 = δ) else wipeD vs δ2 = δ) →
    evCmp tg t f vs xs acc δ = some (acc ++ (xs.filter p).map fun d => cap (h d), δ)
  | [], acc, _, _ => by simp [evCmp]
  | d :: r, acc, hl, hh => by
    obtain ⟨δ1, e1, b, δ2, e2, rfl, h2⟩ := hh d List.mem_cons_self
    have hr := fun acc' (hl' : acc'.length + r.length ≤ 1000000) => cmp_pure r acc' hl' fun d hd => hh d (List.mem_cons_of_mem _ hd)
    simp only [List.length_cons] at hl
    rw [evCmp, e1]
    simp only [e2]
    by_cases hp : p d = true
    · rw [if_pos hp] at h2
      obtain ⟨y, δ3, e3, rfl, e4⟩ := h2
      rw [if_pos hp, e3]
      simp only
      rw [if_pos (by omega), e4, hr _ (by simp; omega), List.filter_cons_of_pos hp]
      simp
    · rw [if_neg hp] at h2
      rw [if_neg hp, h2, hr _ (by omega), List.filter_cons_of_neg hp]
end
end PD
/-! P, part 20: lists of a kind: equal, sorted, one in another. -/
namespace PD
open PySem L2
theorem eqvAll_of {α : Type} [DecidableEq α] {f : α → D} (h : ∀ a b, eqD (f a) (f b) = decide (a = b)) : ∀ xs ys : List α, PyData.eqvAll (toPL (xs.map f)) (toPL (ys.map f)) = decide (xs = ys)
  | [], [] => by simp [toPL, PyData.eqvAll]
  | [], y :: ys => by simp [toPL, PyData.eqvAll]
  | x :: xs, [] => by simp [toPL, PyData.eqvAll]
  | x :: xs, y :: ys => by
    have e : PyData.eqv (toP (f x)) (toP (f y)) = decide (x = y) := h x y
    rw [List.map_cons, List.map_cons, toPL, toPL, PyData.eqvAll, e, eqvAll_of h xs ys]
    by_cases h1 : x = y <;> by_cases h2 : xs = ys <;> simp [h1, h2]
theorem dpL_of {α : Type} {f : α → D} {n : Nat} (h : ∀ a, dp n (f a) = true) (xs : List α) : dpL n (xs.map f) = true := by
  rw [dpL_all, List.all_eq_true]
  intro d hd
  obtain ⟨a, _, rfl⟩ := List.mem_map.mp hd
  exact h a
section
variable {α : Type} [DecidableEq α] {f : α → D} {m n : Fl} {xs ys : List α} {a : α}
theorem eqD_l (h : ∀ a b, eqD (f a) (f b) = decide (a = b)) : eqD (.lst m (xs.map f)) (.lst n (ys.map f)) = decide (xs = ys) := by
  unfold eqD
  rw [toP, toP, PyData.eqv, eqvAll_of h]
theorem eqD_t (h : ∀ a b, eqD (f a) (f b) = decide (a = b)) : eqD (.tup (xs.map f)) (.tup (ys.map f)) = decide (xs = ys) := by
  unfold eqD
  rw [toP, toP, PyData.eqv, eqvAll_of h]
theorem v_eqL (h : ∀ a b, eqD (f a) (f b) = decide (a = b)) (hd : ∀ a, dp 59 (f a) = true) : gEq [.lst m (xs.map f), .lst n (ys.map f)] = some (.bl (decide (xs = ys))) := by
  show (if dp 60 _ && dp 60 _ then some (D.bl (eqD _ _)) else none) = _
  rw [dp, dp, dpL_of hd, dpL_of hd, eqD_l h]; rfl
theorem v_neL (h : ∀ a b, eqD (f a) (f b) = decide (a = b)) (hd : ∀ a, dp 59 (f a) = true) : gNe [.lst m (xs.map f), .lst n (ys.map f)] = some (.bl (!decide (xs = ys))) := by
  show (if dp 60 _ && dp 60 _ then some (D.bl (!eqD _ _)) else none) = _
  rw [dp, dp, dpL_of hd, dpL_of hd, eqD_l h]; rfl
theorem v_neNil (h : ∀ a b, eqD (f a) (f b) = decide (a = b)) (hd : ∀ a, dp 59 (f a) = true) : gNe [.lst m (xs.map f), .lst n []] = some (.bl (!decide (xs = []))) := v_neL (ys := []) h hd
theorem v_in (h : ∀ a b, eqD (f a) (f b) = decide (a = b)) (hd : ∀ a, dp 60 (f a) = true) (hs : ∀ z, f a ≠ .str z) : gIn [f a, .lst m (xs.map f)] = some (.bl (decide (a ∈ xs))) := by
  have e : gIn [f a, .lst m (xs.map f)] = if dp 60 (f a) && dpL 60 (xs.map f) then some (.bl ((xs.map f).any fun y => eqD y (f a))) else none := by
    unfold gIn
    split
    · rename_i e; simp at e
    · rename_i e; simp at e; rw [e.1, e.2.2]
    · rename_i e; simp at e
    · rename_i h1 h2 h3; exact (h2 _ _ _ rfl).elim
  rw [e, hd, dpL_of hd]
  have : ((xs.map f).any fun y => eqD y (f a)) = decide (a ∈ xs) := by
    rw [Bool.eq_iff_iff]
    simp [h]
  rw [this]; rfl
theorem v_notIn (h : ∀ a b, eqD (f a) (f b) = decide (a = b)) (hd : ∀ a, dp 60 (f a) = true) (hs : ∀ z, f a ≠ .str z) : gNotIn [f a, .lst m (xs.map f)] = some (.bl (!decide (a ∈ xs))) := by
  have e : gNotIn [f a, .lst m (xs.map f)] = if dp 60 (f a) && dpL 60 (xs.map f) then some (.bl (!(xs.map f).any fun y => eqD y (f a))) else none := by
    unfold gNotIn
    split
    · rename_i e; simp at e
    · rename_i e; simp at e; rw [e.1, e.2.2]
    · rename_i e; simp at e
    · rename_i h1 h2 h3; exact (h2 _ _ _ rfl).elim
  rw [e, hd, dpL_of hd]
  have : ((xs.map f).any fun y => eqD y (f a)) = decide (a ∈ xs) := by
    rw [Bool.eq_iff_iff]
    simp [h]
  rw [this]; rfl
/-- sorted: the key's order -/
theorem v_sorted {le : α → α → Bool} (hm : shal m = true) (hl : xs.length ≤ 1000000) (hle : ∀ a b, leD (f a) (f b) = le a b) (hd : ∀ a, dp 60 (f a) = true) (ha : ∀ a b, W.alike (toP (f a)) (toP (f b)) = true) (ht : (∀ a, tup1 (toP (f a)) = true) ∨ ∀ a, noTup (toP (f a)) = true) :
    gSorted [.lst m (xs.map f)] = some (.lst .o ((xs.mergeSort le).map f)) := by
  have e : sortOk (xs.map f) = true := by
    unfold sortOk
    rw [dpL_of hd]
    have h1 : ((xs.map f).all fun a => (xs.map f).all fun b => W.alike (toP a) (toP b)) = true := by
      simp [ha]
    have h2 : (((xs.map f).all fun a => tup1 (toP a)) || ((xs.map f).all fun a => noTup (toP a))) = true := by
      rcases ht with ht | ht
      · have : ((xs.map f).all fun a => tup1 (toP a)) = true := by simp [ht]
        rw [this]; rfl
      · have : ((xs.map f).all fun a => noTup (toP a)) = true := by simp [ht]
        rw [this]; exact Bool.or_true _
    rw [h1, h2, List.length_map]
    simpa using hl
  show (if shal m && sortOk (xs.map f) then some (D.lst .o ((xs.map f).mergeSort leD)) else none) = _
  rw [hm, e, List.map_mergeSort (r := le) (s := leD) (f := f) fun a _ b _ => (hle a b).symm]; rfl
end
theorem eqD_i (a b : Int) : eqD (.int a) (.int b) = decide (a = b) := by
  unfold eqD toP
  rw [Bool.eq_iff_iff]
  simp [PyData.eqv]
theorem eqD_p (a b : Int × Int) : eqD (.tup [.int a.1, .int a.2]) (.tup [.int b.1, .int b.2]) = decide (a = b) := by
  unfold eqD
  rw [Bool.eq_iff_iff]
  simp [toP, toPL, PyData.eqv, PyData.eqvAll, Prod.ext_iff]
theorem leD_i (a b : Int) : leD (.int a) (.int b) = decide (a ≤ b) := by
  unfold leD W.dataLe W.sortLe
  show (!PyProof.Rows.lexLt PyProof.Rows.itemOrd [.inl b] [.inl a]) = _
  rw [Bool.eq_iff_iff]
  simp [PyProof.Rows.lexLt, PyProof.Rows.itemLt]
theorem leD_p (a b : Int × Int) : leD (.tup [.int a.1, .int a.2]) (.tup [.int b.1, .int b.2]) = decide (a.1 < b.1 ∨ (a.1 = b.1 ∧ a.2 ≤ b.2)) := by
  unfold leD W.dataLe W.sortLe
  show (!PyProof.Rows.lexLt PyProof.Rows.itemOrd [.inl 1, .inl b.1, .inl 1, .inl b.2, .inl 0] [.inl 1, .inl a.1, .inl 1, .inl a.2, .inl 0]) = _
  rw [Bool.eq_iff_iff]
  simp [PyProof.Rows.lexLt, PyProof.Rows.itemLt]
  omega
theorem ix_last {xs : List D} {x : D} : L2.ixN (xs ++ [x]).length (-1) = some xs.length := by
  rw [List.length_append]; exact ixN_last
theorem set_last {xs : List D} {x y : D} : (xs ++ [x]).set xs.length y = xs ++ [y] := by simp
theorem emp_last {xs : List D} {x : D} : (xs ++ [x]).isEmpty = false := by cases xs <;> rfl
/-- a comprehension that changes nothing, over a list of a kind -/
theorem has_cmp {α : Type} {f : α → D} {tg : D → DS → Option DS} {t : DS → Option EB} {fe : DS → Option ER} {vs : List Nat} {δ : DS} (p : α → Bool) (h : α → D) {K : List D × DS → Prop} (xs : List α) {acc : List D} (hl : acc.length + xs.length ≤ 1000000)
    (hh : ∀ a ∈ xs, has (tg (f a) δ) fun δ1 => GE t δ1 fun r δ2 => r = .ok (p a) ∧ if p a = true then (GE fe δ2 fun r δ3 => r = .ok (h a) ∧ wipeD vs δ3 = δ) else wipeD vs δ2 = δ)
    (hK : K (acc ++ (xs.filter p).map (fun a => cap (h a)), δ)) : has (evCmp tg t fe vs (xs.map f) acc δ) K := by
  have e : evCmp tg t fe vs (xs.map f) acc δ = some (acc ++ (xs.filter p).map (fun a => cap (h a)), δ) := by
    clear hK
    induction xs generalizing acc with
    | nil => simp [evCmp]
    | cons a r ih =>
      obtain ⟨δ1, e1, b, δ2, e2, rfl, h2⟩ := hh a List.mem_cons_self
      have hr := fun acc' (hl' : acc'.length + r.length ≤ 1000000) => ih (acc := acc') hl' fun d hd => hh d (List.mem_cons_of_mem _ hd)
      simp only [List.length_cons] at hl
      rw [List.map_cons, evCmp, e1]
      simp only [e2]
      by_cases hp : p a = true
      · rw [if_pos hp] at h2
        obtain ⟨y, δ3, e3, rfl, e4⟩ := h2
        rw [if_pos hp, e3]
        simp only
        rw [if_pos (by omega), e4, hr _ (by simp; omega), List.filter_cons_of_pos hp]
        simp
      · rw [if_neg hp] at h2
        rw [if_neg hp, h2, hr _ (by omega), List.filter_cons_of_neg hp]
  rw [e, has_some]; exact hK
theorem has_cmpF {α β : Type} {f : α → D} {tg : D → DS → Option DS} {t : DS → Option EB} {fe : DS → Option ER} {vs : List Nat} {δ : DS} (p : α → Bool) (g : α → β) (fb : β → D) (hc : ∀ b, cap (fb b) = fb b) {K : List D × DS → Prop} (xs : List α) (hl : xs.length ≤ 1000000)
    (hh : ∀ a ∈ xs, has (tg (f a) δ) fun δ1 => GE t δ1 fun r δ2 => r = .ok (p a) ∧ if p a = true then (GE fe δ2 fun r δ3 => r = .ok (fb (g a)) ∧ wipeD vs δ3 = δ) else wipeD vs δ2 = δ)
    (hK : K (((xs.filter p).map g).map fb, δ)) : has (evCmp tg t fe vs (xs.map f) [] δ) K := by
  refine has_cmp p (fun a => fb (g a)) xs (by simpa using hl) hh ?_
  have : (xs.filter p).map (fun a => cap (fb (g a))) = ((xs.filter p).map g).map fb := by simp [hc, Function.comp_def]
  rw [List.nil_append, this]; exact hK
theorem filt_true {α : Type} (xs : List α) : xs.filter (fun _ => true) = xs := List.filter_eq_self.mpr fun _ _ => rfl
theorem has_cmpA {α β : Type} {f : α → D} {tg : D → DS → Option DS} {t : DS → Option EB} {fe : DS → Option ER} {vs : List Nat} {δ : DS} (g : α → β) (fb : β → D) (hc : ∀ b, cap (fb b) = fb b) {K : List D × DS → Prop} (xs : List α) (hl : xs.length ≤ 1000000)
    (hh : ∀ a ∈ xs, has (tg (f a) δ) fun δ1 => GE t δ1 fun r δ2 => r = .ok true ∧ (GE fe δ2 fun r δ3 => r = .ok (fb (g a)) ∧ wipeD vs δ3 = δ))
    (hK : K ((xs.map g).map fb, δ)) : has (evCmp tg t fe vs (xs.map f) [] δ) K := by
  refine has_cmpF (fun _ => true) g fb hc xs hl (fun a ha => ?_) (by rw [filt_true]; exact hK)
  have := hh a ha
  simp only [if_true]
  exact this
/-- one statement, the rest unopened -/
theorem step {f g : DS → Option ES} {δ : DS} {QS : Out → DS → Prop} (δ' : DS) (h1 : ∀ (k : DS → Prop) (Q : Out → DS → Prop), k δ' → Go f δ (kQ k Q)) (h2 : Go g δ' QS) : Go (evSeq f g) δ QS := by
  rw [g_seq]
  exact h1 _ _ h2
theorem stepE {f g : DS → Option ES} {δ : DS} {QS : Out → DS → Prop} (P : DS → Prop) (h1 : ∀ QQ : Out → DS → Prop, (∀ δ', P δ' → QQ .nx δ') → Go f δ QQ) (h2 : ∀ δ', P δ' → Go g δ' QS) : Go (evSeq f g) δ QS := by
  rw [g_seq]
  exact h1 _ fun δ' h => h2 δ' h
end PD
/-! P, part 21: raise. -/
namespace PD
open PySem L2

/-- raise X(..), X an own class -/
def evRaise (c : Nat) (fa : DS → Option EA) : DS → Option ES := fun δ => match fa δ with
  | none => none
  | some (.ex x, δ') => some (.ex x, δ')
  | some (.ok ds, δ') => if ds.length ≤ 1000 then some (.ex ⟨c, []⟩, δ') else none
/-- an own exception class: what the head says of it -/
structure ExF (E : En) (G : GC) (x : Str) (c : Nat) : Prop where
  mg : E.mg x = some (.ref (G.cls c))
  ex : PySem.W.excIn E.K (G.cls c) He.veBase "ValueError.__new__" = true
  kp : PySem.W.keepIn E.K (.ref (G.cls c)) = true
  sb : PySem.W.subIn E.K (.ref (G.cls c)) (.type "BaseException") = some true
  ty : PySem.W.typeIn E.K (.ref (G.cls c)) = some (.type "type")
section
variable {E : En} {G : GC} {W : WX} {p : Pl} {n : Nat} {pn : List Nat}
theorem rd_raise {ks : List Bool} {qt : Bool} {c : Nat} {fa : DS → Option EA} {tr : TA} (ha : ∀ σ H Q, rdA G W ks qt fa σ H Q → tr σ H Q) : ∀ D σ H, rdS G W n pn (evRaise c fa) D σ H → tr σ H fun vs H1 => vs.length ≤ sizeLine ∧ W (.ref (G.cls c)) none σ H1 := by
  rintro D σ H ⟨hn, δ, Z, S, FS, sr, r, hr, w⟩
  unfold evRaise at hr
  refine ha σ H _ ⟨δ, Z, S, FS, sr, ?_, fun ds δ' h vs H' Z' FS' B q => ?_, fun x δ' h c dd H' Z' FS' q => ?_⟩
  · cases q : fa δ with
    | none => rw [q] at hr; cases hr
    | some w => exact ⟨w, rfl⟩
  · rw [h] at hr
    simp only at hr
    by_cases hl : ds.length ≤ 1000
    · rw [if_pos hl] at hr
      cases hr
      refine ⟨by rw [← q.ar.l1]; exact sz1000 hl, ?_⟩
      have b := q.b
      exact w.ex _ _ rfl _ none σ H' Z' FS' ⟨b.sr, b.st, ⟨rfl, .inl ⟨rfl, rfl⟩⟩, Pin.refl _ _⟩
    · rw [if_neg hl] at hr; cases hr
  · rw [h] at hr; cases hr
    exact w.ex x _ rfl c dd σ H' Z' FS' q.q
theorem s_raise {x : Str} {c : Nat} {ks : List Bool} {qt : Bool} {q cpos pos : Pos} {e : Expr} {es : List Expr} {fa : DS → Option EA} (F : ExF E G x c) (hg : glOk p x = true) (ha : JA E G p ks qt (e :: es) fa) (hh : p.hot = false := by rfl) (hs : StarNo e es := by exact fun _ => rfl) (hs2 : NoStar es := by exact fun _ _ => rfl) :
    JS E G p n pn (.Raise (some (.Call (.Name x q) (e :: es) [] cpos)) none pos) (evRaise c fa) := fun X W hA hT _ => by
  obtain ⟨g1, g2, _⟩ := at_gl hg hA
  have kE := hA.K
  have hex := F.ex; have hkp := F.kp; have hsb := F.sb; have hty := F.ty
  rw [← kE] at hex hkp hsb hty
  refine PS.mono (ps_raise (hA.calm hh) hT (pmk_ownA PySem.F.excBase_ValueError hex (by rw [hA.mg]; exact F.mg) hkp (raises_own hsb hty) g1 (ha X W hA hT) g2 (hs _) (hs2 _ _))) ?_
  exact rd_raise fun _ _ _ h => h
end
end PD
/-! P, part 22: isinstance of built-in types; parts of a tuple, a list to names. -/
namespace PD
open PySem L2

def tyOf : D → Option String
  | .non => some "NoneType"
  | .bl _ => some "bool"
  | .int _ => some "int"
  | .str _ => some "str"
  | .tup _ => some "tuple"
  | .lst _ _ => some "list"
  | .dic _ _ => some "dict"
  | .dit _ _ => some "dict"
  | _ => none
/-- is a thing of type a one of type b -/
def isT (a b : String) : Bool := a == b || (a == "bool" && b == "int")
def tys : List String := ["NoneType", "bool", "int", "str", "tuple", "list", "dict"]
def evIsi (T : String) (f : DS → Option ER) : DS → Option ER := fun δ => match f δ with
  | none => none
  | some (.ex x, δ') => some (.ex x, δ')
  | some (.ok d, δ') => match tyOf d with
    | none => none
    | some a => some (.ok (.bl (isT a T)), δ')
def evAsgT (tg : D → DS → Option DS) (f : DS → Option ER) : DS → Option ES := fun δ => match f δ with
  | none => none
  | some (.ex x, δ') => some (.ex x, δ')
  | some (.ok d, δ') => if isF d then match tg d δ' with
    | none => none
    | some δ2 => some (.nx, δ2) else none
section
variable {E : En} {G : GC} {W : WX} {p : Pl} {n : Nat} {pn : List Nat}
theorem tyOf_mem {d : D} {a : String} (h : tyOf d = some a) : a ∈ tys := by
  cases d <;> first | (cases h; decide) | cases h
theorem tyX_of {Z S : AS} {H : Hp} {d : D} {v : V} {A : AS} {t : String} (r : Rep G Z S H d v A) (h : tyOf d = some t) : TyX G.K H v (.type t) := by
  have fz : ∀ {d v}, RepF G Z H d v → tyOf d = some t → TyX G.K H v (.type t) := fun {d v} r h => by
    cases r with
    | non => cases h; exact .base .non
    | bl b => cases h; exact .base (.bl b)
    | int i => cases h; exact .base (.int i)
    | str s => cases h; exact .base (.str s)
    | tup q hl he =>
      cases h
      rcases q with ⟨_, q | ⟨o, q⟩⟩ | ⟨o, its, m, q, c, _⟩
      · exact .base (.tup q)
      · exact .fTuple q
      · exact .kTuple q c
    | lsk q hl he =>
      cases h
      rcases q with ⟨_, q | ⟨o, q⟩⟩ | ⟨o, its, m, q, c, _⟩
      · exact .base (.lst q)
      · exact .base (.frz q)
      · exact .kList q c
    | lst z q hl he => cases h; exact .base (.lst q)
    | dic z q hl he => cases h; exact .base (.dK q)
    | dit z q hl he => cases h; exact .base (.dT q)
    | ins z q hl he => cases h
  cases r with
  | fz q hA => exact fz q h
  | lo q hl he hA => cases h; exact .base (.lst q)
  | loo B q hl he hd hn ho hA => cases h; exact .base (.lst q)
  | ll s q hl he hA => cases h; exact .base (.lst q)
  | lll s q hl he hA => cases h; exact .base (.lst q)
  | dco q hl he hA => cases h; exact .base (.dK q)
  | dcoo B q hl he hd hn ho hA => cases h; exact .base (.dK q)
  | dcl s q hl he hA => cases h; exact .base (.dK q)
  | dcll s q hl he hA => cases h; exact .base (.dK q)
  | dto q hl he hA => cases h; exact .base (.dT q)
  | dtl s q hl he hA => cases h; exact .base (.dT q)
  | ioo B q hl he hd hn ho hA => cases h
  | ill s q hl he hA => cases h
theorem rd_isi {vw qt : Bool} {T : String} {f : DS → Option ER} {te : TE} (hT : ∀ a ∈ tys, kitB a T = some (isT a T)) (ha : ∀ σ H Q, rdE G W vw qt f σ H Q → te σ H Q) : ∀ σ H Q, rdE G W false qt (evIsi T f) σ H Q → te σ H fun x H1 => rIsi G.K [x, .ty T] H1 Q := by
  rintro σ H Q ⟨δ, Z, S, FS, sr, ⟨w, hf⟩, ok, ex⟩
  unfold evIsi at hf ok ex
  refine ha σ H _ ⟨δ, Z, S, FS, sr, ?_, fun d δ' h v H' Z' FS' A q => ?_, fun x δ' h => ?_⟩
  · cases q : f δ with
    | none => rw [q] at hf; cases hf
    | some w => exact ⟨w, rfl⟩
  · rw [h] at hf ok
    simp only at hf ok
    cases e : tyOf d with
    | none => rw [e] at hf; cases hf
    | some a =>
      rw [e] at ok
      have tx : TyX G.K H' v (.type a) := by
        have vl := q.vl
        split at vl
        · exact tyX_of vl.1 e
        · exact tyX_of vl.1 e
      exact ⟨v, .ty T, .type a, .type T, isT a T, rfl, .ty T, tx, kit_ty (hT a (tyOf_mem e)), ok _ _ rfl _ H' Z' FS' S0 (q.b.bl _)⟩
  · rw [h] at ex
    exact ex x δ' rfl
theorem j_isi {vw qt : Bool} {x y : Str} {T : String} {q q2 pos : Pos} {e : Expr} {f : DS → Option ER} (hG : G.K = E.K) (hx : x = Str.ofString "isinstance") (hg : glOk p x = true) (hm : E.mg x = none) (hgy : glOk p y = true) (hmy : E.mg y = none) (hby : bootBuiltins y = some (.type T)) (ha : JE E G p vw qt e f)
    (hT : ∀ a ∈ tys, kitB a T = some (isT a T) := by decide +kernel) (hs : StarNo e [.Name y q2] := by exact fun _ => rfl) (hs2 : NoStar [.Name y q2] := by exact fun _ _ => rfl) : JE E G p false qt (.Call (.Name x q) [e, .Name y q2] [] pos) (evIsi T f) := fun X W hA hTk => by
  obtain ⟨g1, g2, g3⟩ := at_gl hg hA
  obtain ⟨k1, k2, k3⟩ := at_gl hgy hA
  have hb : bootBuiltins x = some (.builtin "isinstance") := by rw [hx]; decide +kernel
  refine PE.mono (pe_callB call_isi g1 (by rw [hA.mg]; exact hm) hb (pa_cons (ha X W hA hTk) (pa_cons (pe_bltn (v := .ty T) k1 (by rw [hA.mg]; exact hmy) hby rfl k3 k2) pa_nil (by rfl)) (hs _)) g3 g2 (hs _) (hs2 _ _)) fun σ H Q h => ?_
  have := rd_isi (G := G) (W := W) (T := T) (vw := vw) (te := rdE G W vw qt f) hT (fun _ _ _ h => h) σ H Q h
  rw [hG, ← hA.K] at this
  exact this
/-- a, b = e -/
theorem rd_asgT {vw qt : Bool} {is : List Nat} {tg : D → DS → Option DS} {f : DS → Option ER} {te : TE} {g : TG} (htg : TgOk G n pn tg g) (ha : ∀ σ H Q, rdE G W vw qt f σ H Q → te σ H Q) : ∀ D σ H, rdS G W n pn (evAsgT tg f) D σ H → tAsg te g D σ H := by
  rintro D σ H ⟨hn, δ, Z, S, FS, sr, r, hr, w⟩
  unfold evAsgT at hr
  refine ha σ H _ ⟨δ, Z, S, FS, sr, ?_, fun d δ' h v H' Z' FS' A q => ?_, fun x δ' h c dd H' Z' FS' q => ?_⟩
  · cases q : f δ with
    | none => rw [q] at hr; cases hr
    | some w => exact ⟨w, rfl⟩
  · rw [h] at hr
    simp only at hr
    by_cases hF : isF d = true
    · rw [if_pos hF] at hr
      cases e : tg d δ' with
      | none => rw [e] at hr; cases hr
      | some δ2 =>
        rw [e] at hr
        cases hr
        obtain ⟨rf, b⟩ := q.fzn hF
        exact htg d v Z' S H' δ' σ FS' δ2 hn b.sr rf e _ fun σ' FS2 sr2 own pin => w.nx _ rfl σ' H' Z' FS2 ⟨sr2, b.st.sub own, pin⟩
    · rw [if_neg hF] at hr; cases hr
  · rw [h] at hr; cases hr
    exact w.ex x _ rfl c dd σ H' Z' FS' q.q
theorem s_asgT {vw qt : Bool} {t e : Expr} {pos : Pos} {tg : D → DS → Option DS} {f : DS → Option ER} (htg : JTg E G p n pn t tg) (ha : JE E G p vw qt e f) (h2 : ∀ env : Env, swapsWithSole [t] e pos.line env = pure false := by exact fun _ => rfl) (h3 : ∀ env : Env, swappedStores [t] e env = pure none := by exact fun _ => rfl)
    (h4 : ∀ env : Env, (assignEach [t] env).map (fun x => x.2) = [assign t env] := by exact fun _ => rfl) : JS E G p n pn (.Assign [t] e pos) (evAsgT tg f) := fun X W hA hT _ => by
  obtain ⟨g, hg1, hg2⟩ := htg
  exact PS.mono (ps_asg (ha X W hA hT) (hg2 X hA) (h2 _) (h3 _) (h4 _)) (rd_asgT (is := []) hg1 fun _ _ _ h => h)
end
end PD
/-! P, part 23: try .. except. -/
namespace PD
open PySem L2

/-- an exception meets its clauses -/
def evHd (exm : Nat → Nat → Bool) (x : Xc) : List (Nat × (DS → Option ES)) → DS → Option ES
  | [], δ => some (.ex x, δ)
  | (c, f) :: r, δ => if exm x.c c = true then (match f δ with | some (.ex _, _) => none | o => o) else evHd exm x r δ
/-- nc: the number of own exception classes -/
def evTry (nc : Nat) (exm : Nat → Nat → Bool) (hds : List (Nat × (DS → Option ES))) (body : DS → Option ES) : DS → Option ES := fun δ => match body δ with
  | some (.ex x, δ') => if x.c < nc then evHd exm x hds δ' else none
  | r => r
/-- a place in an except suite -/
def Pl.su (p : Pl) : Pl := { p with hot := true }
section
variable {E : En} {G : GC} {p : Pl} {X : Cx} {n : Nat} {pn : List Nat}
theorem At.tr (h : At E p X) (l : List (Addr × Obj)) (xe : Value → Shared → Prop) : At E p (X.tr l xe) := ⟨h.prog, h.w, h.K, h.mg, h.base, h.N, h.un, h.room, h.calm, h.sc, h.fn, h.stk⟩
theorem At.su (h : At E p X) (a : Addr) (l : List (Addr × Obj)) : At E p.su (X.suite a l) := ⟨h.prog, h.w, h.K, h.mg, h.base, h.N, h.un, fun z => Bool.noConfusion z, fun z => Bool.noConfusion z, h.sc, h.fn, h.stk⟩
/-- clauses, as they are written -/
inductive JH (E : En) (G : GC) (p : Pl) (n : Nat) (pn : List Nat) : List ExceptHandler → List (Nat × (DS → Option ES)) → Prop
  | nil : JH E G p n pn [] []
  | cons {x : Str} {c : Nat} {q pos : Pos} {b₀ : Stmt} {suite : List Stmt} {f : DS → Option ES} {hs : List ExceptHandler} {l : List (Nat × (DS → Option ES))} (hg : glOk p x = true) (hm : E.mg x = some (.ref (G.cls c))) (hb : JSs E G p.su n pn (b₀ :: suite) f) (r : JH E G p n pn hs l) :
      JH E G p n pn (.ExceptHandler (some (.Name x q)) none (b₀ :: suite) pos :: hs) ((c, f) :: l)
def tHds (G : GC) (n : Nat) (pn : List Nat) (l : List (Nat × (DS → Option ES))) : List (Value × (Addr → Value → Option Addr → TS)) := l.map fun h => (.ref (G.cls h.1), fun _ _ _ => rdS G W0 n pn h.2)
theorem JH.ok {hs : List ExceptHandler} {l : List (Nat × (DS → Option ES))} (h : JH E G p n pn hs l) (hA : At E p X) : HdsOk X hs (tHds G n pn l) := by
  induction h with
  | nil => exact .nil
  | @cons x c q pos b₀ suite f hs l hg hm hb r ih =>
    obtain ⟨g1, g2, _⟩ := at_gl hg hA
    exact .cons ⟨g1, g2, .inl (by rw [hA.mg]; exact hm)⟩ (fun a oe cls d l _ _ => hb _ W0 (hA.su a _) takes_w0 PassesOwn.never) ih
theorem rd_hd {Wout : WX} {nc : Nat} {exm : Nat → Nat → Bool} {x : Xc} (hx : x.c < nc) : ∀ (l : List (Nat × (DS → Option ES))), (∀ h ∈ l, ∀ i, i < nc → PySem.W.exmOne G.K (.ref (G.cls i)) (.ref (G.cls h.1)) = some (exm i h.1)) →
    ∀ {D : Ends} {S : Nat → AS} {σ : St} {H : Hp} {Z : AS} {FS : Nat → AS} {r : ES} {δ : DS} {c : Value} {dd : Option Addr}, σ.length = n → SR G Z S H δ σ FS → XR G Z H x c dd → evHd exm x l δ = some r → WantS G Wout S pn D σ H Z FS r → wMany G.K Wout D (tHds G n pn l) c dd σ H
  | [], _, D, S, σ, H, Z, FS, r, δ, c, dd, hn, sr, xr, e, w => by
    cases e
    exact w.ex x δ rfl c dd σ H Z FS ⟨sr, Step.refl _ _ _, xr, Pin.refl _ _⟩
  | (i, f) :: l, hl, D, S, σ, H, Z, FS, r, δ, c, dd, hn, sr, xr, e, w => by
    have e1 := hl (i, f) List.mem_cons_self x.c hx
    rw [evHd] at e
    refine ⟨exm x.c i, by rw [xr.1]; exact e1, fun hb a _ => ?_, fun hb => ?_⟩
    · rw [if_pos hb] at e
      cases q : f δ with
      | none => rw [q] at e; cases e
      | some o =>
        obtain ⟨o, δ2⟩ := o
        rw [q] at e
        cases o with
        | ex x' => cases e
        | nx => cases e; exact ⟨hn, δ, Z, S, FS, sr, _, q, w.nx, w.bk, w.ct, w.rt, fun _ _ er => by cases er⟩
        | bk => cases e; exact ⟨hn, δ, Z, S, FS, sr, _, q, w.nx, w.bk, w.ct, w.rt, fun _ _ er => by cases er⟩
        | ct => cases e; exact ⟨hn, δ, Z, S, FS, sr, _, q, w.nx, w.bk, w.ct, w.rt, fun _ _ er => by cases er⟩
        | rt d => cases e; exact ⟨hn, δ, Z, S, FS, sr, _, q, w.nx, w.bk, w.ct, w.rt, fun _ _ er => by cases er⟩
    · rw [if_neg (by rw [hb]; exact Bool.false_ne_true)] at e
      exact rd_hd hx l (fun h hh => hl h (List.mem_cons_of_mem _ hh)) hn sr xr e w
theorem rd_try {Wout : WX} {nc : Nat} {exm : Nat → Nat → Bool} {l : List (Nat × (DS → Option ES))} {body : DS → Option ES} (hl : ∀ h ∈ l, ∀ i, i < nc → PySem.W.exmOne G.K (.ref (G.cls i)) (.ref (G.cls h.1)) = some (exm i h.1)) :
    ∀ D σ H, rdS G Wout n pn (evTry nc exm l body) D σ H → rdS G (wMany G.K Wout D (tHds G n pn l)) n pn body D σ H := by
  rintro D σ H ⟨hn, δ, Z, S, FS, sr, r, hr, w⟩
  unfold evTry at hr
  cases q : body δ with
  | none => rw [q] at hr; cases hr
  | some o =>
    obtain ⟨o, δ2⟩ := o
    rw [q] at hr
    refine ⟨hn, δ, Z, S, FS, sr, (o, δ2), q, ?_⟩
    cases o with
    | ex x =>
      simp only at hr
      by_cases hx : x.c < nc
      · rw [if_pos hx] at hr
        refine ⟨fun _ e => (by cases e), fun _ e => (by cases e), fun _ e => (by cases e), fun _ _ e => (by cases e), fun x' δ' e c dd σ' H' Z' FS' p => ?_⟩
        cases e
        exact rd_hd hx l hl (p.pn.1.trans hn) p.sr p.xr hr (w.back ⟨p.sr, p.st, p.pn⟩)
      · rw [if_neg hx] at hr; cases hr
    | nx => cases hr; exact ⟨w.nx, w.bk, w.ct, w.rt, fun _ _ e => by cases e⟩
    | bk => cases hr; exact ⟨w.nx, w.bk, w.ct, w.rt, fun _ _ e => by cases e⟩
    | ct => cases hr; exact ⟨w.nx, w.bk, w.ct, w.rt, fun _ _ e => by cases e⟩
    | rt d => cases hr; exact ⟨w.nx, w.bk, w.ct, w.rt, fun _ _ e => by cases e⟩
theorem s_try {nc : Nat} {exm : Nat → Nat → Bool} {h₀ : ExceptHandler} {hs : List ExceptHandler} {l : List (Nat × (DS → Option ES))} {body : List Stmt} {f : DS → Option ES} {pos : Pos} (hG : G.K = E.K) (hb : JSs E G p n pn body f) (hh : JH E G p n pn (h₀ :: hs) l)
    (hl : ∀ h ∈ l, ∀ i, i < nc → PySem.W.exmOne E.K (.ref (G.cls i)) (.ref (G.cls h.1)) = some (exm i h.1)) (hi : p.inb = false := by rfl) : JS E G p n pn (.Try body (h₀ :: hs) [] [] pos) (evTry nc exm l f) := fun X W hA hT hP => by
  obtain ⟨s1, s2⟩ := hA.stk hi
  refine PS.mono (ps_try_many s1 s2 hT (tb := fun W => rdS G W n pn f) (fun W' l' xe tk po => hb _ W' (hA.tr l' xe) tk po) (hh.ok hA)) ?_
  have := rd_try (G := G) (n := n) (pn := pn) (Wout := W) (nc := nc) (exm := exm) (l := l) (body := f) (by rw [hG]; exact hl)
  rw [hG, ← hA.K] at this
  exact this
end
end PD
/-! P, part 24: default parameters. -/
namespace PD
open PySem L2
section
variable {E : En} {G : GC}
theorem cst_nil : Cst G [] [] := fun _ _ => ⟨rfl, fun i d v e => by simp at e⟩
theorem cst_cons {d : D} {v : V} {ds : List D} {vs : List V} (h : ∀ Z H, RepF G Z H d v) (r : Cst G ds vs) : Cst G (d :: ds) (v :: vs) := fun Z H => by
  obtain ⟨l, q⟩ := r Z H
  refine ⟨by simp [l], fun i d' v' e1 e2 => ?_⟩
  cases i with
  | zero => simp at e1 e2; subst e1 e2; exact h Z H
  | succ i => exact q i d' v' (by simpa using e1) (by simpa using e2)
theorem fd_dfl {x : Str} {k : Nat} {F : FD} {f : Addr} {fd : FuncData} {ps : List Str} {dds : List D} {dvs : List V} (h : FnOk E.P E.w E.K E.mg E.base (CX E.P E.w) k f fd ps (spF G F)) (hm : E.mg x = some (.ref f)) (hk : PySem.W.keepIn E.K (.ref f) = true) (hb : ∃ ds, Vals dvs ds ∧ Binds E.K fd ps ds) (hd : Cst G dds dvs) : Fd E G x k F dds := by
  obtain ⟨ds, h1, h2⟩ := hb
  exact ⟨f, fd, ps, ds, dvs, h, hm, hk, h2, h1, hd⟩
/-- which class is a part of which, by numbers -/
def HxOk (E : En) (G : GC) (nc : Nat) (exm : Nat → Nat → Bool) : Prop := ∀ i j, i < nc → j < nc → PySem.W.exmOne E.K (.ref (G.cls i)) (.ref (G.cls j)) = some (exm i j)
theorem hx_of {nc : Nat} {exm : Nat → Nat → Bool} {l : List (Nat × (DS → Option ES))} (hx : HxOk E G nc exm) (h : (l.all fun h => decide (h.1 < nc)) = true) : ∀ h ∈ l, ∀ i, i < nc → PySem.W.exmOne E.K (.ref (G.cls i)) (.ref (G.cls h.1)) = some (exm i h.1) := fun q hq i hi =>
  hx i q.1 hi (of_decide_eq_true (List.all_eq_true.mp h q hq))
end
end PD
/-! P, part 25: methods of texts with one argument. -/
namespace PD
open PySem L2

def isStr : D → Bool
  | .str _ => true
  | _ => false
def strOf : List D → Option (List Str)
  | [] => some []
  | .str z :: r => (strOf r).map (z :: ·)
  | _ :: _ => none
def gSplit : List D → Option D
  | [.str a, .str b] => if (b.length == 0) = false ∧ a.length ≤ 1000000 then some (.lst .o ((Txt.split a b).map .str)) else none
  | _ => none
def gJoin : List D → Option D
  | [.str a, .lst _ xs] => match strOf xs with
    | none => none
    | some ys => if (ys.map (·.length)).sum + ys.length * a.length ≤ 16777216 then some (.str (Txt.join a ys)) else none
  | _ => none
section
variable {E : En} {G : GC} {p : Pl} {X : Cx}
theorem strOf_eq : ∀ {xs : List D} {ys : List Str}, strOf xs = some ys → xs = ys.map .str
  | [], ys, h => by cases h; rfl
  | .str i :: r, ys, h => by
    rw [strOf] at h
    cases e : strOf r with
    | none => rw [e] at h; cases h
    | some m => rw [e] at h; cases h; rw [strOf_eq e]; rfl
  | .non :: _, _, h => by cases h
  | .bl _ :: _, _, h => by cases h
  | .int _ :: _, _, h => by cases h
  | .tup _ :: _, _, h => by cases h
  | .lst _ _ :: _, _, h => by cases h
  | .dic _ _ :: _, _, h => by cases h
  | .dit _ _ :: _, _, h => by cases h
  | .ins _ _ _ :: _, _, h => by cases h
  | .exc _ _ :: _, _, h => by cases h
theorem strs_V {Z S : AS} {H : Hp} {ns : List Str} {vs : List V} (hl : (ns.map D.str).length = vs.length) (he : ∀ (i : Nat) d w, (ns.map D.str)[i]? = some d → vs[i]? = some w → ∃ B, Rep G Z S H d w B) : vs = ns.map V.str := by
  refine List.ext_getElem? fun i => ?_
  by_cases hi : i < ns.length
  · have h2 : i < vs.length := by rw [← hl]; simpa using hi
    obtain ⟨B, r⟩ := he i (.str ns[i]) vs[i] (by simp [hi]) (by simp [h2])
    have := r.strV
    simp [h2, hi, this]
  · have h2 : ¬ i < vs.length := by rw [← hl]; simpa using hi
    rw [List.getElem?_eq_none (by omega), List.getElem?_eq_none (by simpa using hi)]
theorem ok_split (h : XO G X) : MtOk G X "str.split" gSplit := .of mt_split fun x xs H Q ⟨Z, S, ds, d, zs, a, e, k⟩ => by
  unfold gSplit at e
  split at e
  · rename_i a1 b1
    split at e
    · rename_i hc
      cases e
      obtain ⟨x', y', A, B, ev, r1, r2⟩ := argv2 a
      cases ev
      rw [r1.strV, r2.strV]
      refine ⟨a1, b1, rfl, rfl, hc.1, by rw [sizeLine_eq]; have := hc.2; omega, fun q hq => ?_⟩
      refine k.lst zs (by simp) (fun i d w e1 e2 => ?_) hq
      obtain ⟨y, f1, rfl⟩ := getMap e1
      obtain ⟨y', f2, rfl⟩ := getMap e2
      rw [f1] at f2; cases f2
      exact .str _
    · cases e
  · cases e
theorem ok_join (h : XO G X) : MtOk G X "str.join" gJoin := .of mt_join fun x xs H Q ⟨Z, S, ds, d, zs, a, e, k⟩ => by
  unfold gJoin at e
  split at e
  · rename_i a1 m xs'
    cases q : strOf xs' with
    | none => rw [q] at e; cases e
    | some ys =>
      rw [q] at e
      simp only at e
      split at e
      · rename_i hc
        cases e
        obtain ⟨x', y', A, B, ev, r1, r2⟩ := argv2 a
        cases ev
        rw [r1.strV]
        obtain ⟨pa, vs, rfl, sq, hl, he, _⟩ := r2.lstV
        rw [← h.K] at sq
        rw [strOf_eq q] at hl he
        rw [strs_V hl fun i d w e1 e2 => let ⟨B, r, _⟩ := he i d w e1 e2; ⟨B, r⟩] at sq
        exact ⟨a1, pa, ys, rfl, rfl, .inl sq, hc, k.str⟩
      · cases e
  · cases e
/-- o.m(e), o a text -/
theorem j_sm1 {v1 q1 v2 q2 : Bool} {id : String} {name : Str} {o e : Expr} {a pos : Pos} {g : List D → Option D} {fo fa : DS → Option ER} (hG : G.K = E.K) (slot : Slot "str" name id) (ty : typeOf (.builtin id) = pure (.type "method_descriptor")) (ho : ∀ {X}, XO G X → MtOk G X id g) (h1 : JE E G p v1 q1 o fo) (h2 : JE E G p v2 q2 e fa)
    (k1 : v1 = true → q1 = true := by decide) (k2 : v2 = true → q2 = true := by decide) (hs : StarNo e [] := by exact fun _ => rfl) (hb : ∀ env : Env, attributeBase o name env (eval o env) = eval o env := by exact fun _ => rfl) (hl : (a.endLine == pos.line) = true := by rfl) :
    JE E G p false (q1 && (q2 && true)) (.Call (.Attribute o name a) [e] [] pos) (evOp g (evCons v1 (q2 && true) (evGuard isStr fo) (evCons v2 true fa evNil))) := fun X W hA hT =>
  PE.mono (pe_m1 slot ty (ho (hA.xo hG)) (h1 X W hA hT) (h2 X W hA hT) (hs _) (hb _) hl) fun σ H Q h =>
    rd_op (snd_of G g) (rd_cons (rd_guard (P := fun v _ => ∃ a, v = .str a) (fun Z S H d v A r hd => by
      cases d <;> first | (cases hd; done) | exact ⟨_, r.strV⟩) (fun _ _ _ h => h)) (rd_cons (fun _ _ _ h => h) rd_nil k2) k1) σ H Q h
end
end PD
/-! P, part 26: chains of comparisons of any length. -/
namespace PD
open PySem L2 PyProof.Rows

abbrev Lk := (List D → Option D) × (DS → Option ER)
def evLinks : List Lk → D → DS → Option ER
  | [], _, _ => none
  | (g, f) :: rest, d, δ => match f δ with
    | none => none
    | some (.ex x, δ1) => some (.ex x, δ1)
    | some (.ok c, δ1) => if isF c then match g [d, c] with
        | some (.bl k) => if rest.isEmpty || !k then some (.ok (.bl k), δ1) else evLinks rest c δ1
        | _ => none
      else none
def evChainN (fa : DS → Option ER) (l : List Lk) : DS → Option ER := fun δ => match fa δ with
  | none => none
  | some (.ex x, δ1) => some (.ex x, δ1)
  | some (.ok a, δ1) => if isF a then evLinks l a δ1 else none
/-- the reading of the links behind a value -/
def rdL (G : GC) (W : WX) (l : List Lk) (d : D) (y : V) : TE := fun σ H Q => ∃ δ Z S FS, SR G Z S H δ σ FS ∧ RepF G Z H d y ∧ (∃ r, evLinks l d δ = some r) ∧
  (∀ k δ', evLinks l d δ = some (.ok (.bl k), δ') → ∀ H' Z' FS', PostB G S false σ H Z FS δ' H' Z' FS' → Q (.bl k) H') ∧
  (∀ x δ', evLinks l d δ = some (.ex x, δ') → ∀ c dd H' Z' FS', PostX G S σ H Z FS x δ' c dd H' Z' FS' → W c dd σ H')
section
variable {E : En} {G : GC} {W : WX} {X : Cx} {p : Pl}
theorem links_bl : ∀ {l : List Lk} {d : D} {δ : DS} {c : D} {δ' : DS}, evLinks l d δ = some (.ok c, δ') → ∃ k, c = .bl k
  | [], _, _, _, _, h => by cases h
  | (g, f) :: rest, d, δ, c, δ', h => by
    rw [evLinks] at h
    split at h
    · cases h
    · cases h
    · split at h
      · split at h
        · split at h
          · cases h; exact ⟨_, rfl⟩
          · exact links_bl h
        · cases h
      · cases h
/-- what one link asks of its operand -/
theorem rd_link {v q : Bool} {g : List D → Option D} {f : DS → Option ER} {rest : List Lk} {d : D} {y : V} {te : TE} (ha : ∀ σ H Q, rdE G W v q f σ H Q → te σ H Q) : ∀ σ H Q, rdL G W ((g, f) :: rest) d y σ H Q →
    te σ H fun w H1 => rOf G g [y, w] H1 fun z H2 => ∃ k, z = .bl k ∧ if (rest.isEmpty || !k) = true then Q (.bl k) H2 else ∃ c, rdL G W rest c w σ H2 Q := by
  rintro σ H Q ⟨δ, Z, S, FS, sr, rd, ⟨w0, hf⟩, ok, ex⟩
  rw [evLinks] at hf
  simp only [evLinks] at ok ex
  refine ha σ H _ ⟨δ, Z, S, FS, sr, ?_, fun c δ1 h w H1 Z1 FS1 A q1 => ?_, fun x δ1 h c dd H1 Z1 FS1 q1 => ?_⟩
  · cases q : f δ with
    | none => rw [q] at hf; cases hf
    | some w => exact ⟨w, rfl⟩
  · rw [h] at hf
    simp only [h] at hf ok ex
    by_cases hF : isF c = true
    · rw [if_pos hF] at hf
      simp only [if_pos hF] at ok ex
      obtain ⟨rc, b1⟩ := q1.fzn hF
      have rd1 := rd.step b1.st fun x z => (sr.nz x z).1
      have av : ArgV G Z1 S0 H1 [d, c] [y, w] := ⟨rfl, fun j d' v' e1 e2 => by
        match j with
        | 0 => simp at e1 e2; subst e1 e2; exact ⟨S0, .fz rd1 fun _ z => z⟩
        | 1 => simp at e1 e2; subst e1 e2; exact ⟨S0, .fz rc fun _ z => z⟩
        | j + 2 => simp at e1⟩
      cases eg : g [d, c] with
      | none => rw [eg] at hf; cases hf
      | some dk =>
        rw [eg] at hf
        simp only [eg] at ok ex
        refine ⟨Z1, S0, [d, c], dk, b1.sr.zs, av, eg, fun z H2 Z2 A2 sm zi zn rp fr => ?_⟩
        match dk, hf, ok, ex, rp with
        | .bl k, hf, ok, ex, rp =>
          simp only at hf ok ex
          refine ⟨k, rp.blV, ?_⟩
          have b2 : PostB G S false σ H Z FS δ1 H2 Z2 FS1 := ⟨b1.sr.grow sm zi zn, b1.st.trans ⟨fun a o e _ => sm a o e, fun a o e => ⟨o, sm a o e⟩, zi, fun a z => (zn a z).imp id fun q => .inr q.1, fun a z => .inl z⟩, fun q => absurd q Bool.false_ne_true⟩
          by_cases hk : (rest.isEmpty || !k) = true
          · rw [if_pos hk]
            simp only [if_pos hk] at ok
            exact ok k δ1 rfl H2 Z2 FS1 b2
          · rw [if_neg hk]
            rw [if_neg hk] at hf
            simp only [if_neg hk] at ok ex
            refine ⟨c, δ1, Z2, S, FS1, b2.sr, rc.mono zi fun a _ o e => sm a o e, ⟨_, hf⟩, fun k' δ' e H' Z' FS' b3 => ok k' δ' e H' Z' FS' ⟨b3.sr, b2.st.trans b3.st, fun q => absurd q Bool.false_ne_true⟩, fun x δ' e c' dd H' Z' FS' q => ex x δ' e c' dd H' Z' FS' ⟨q.sr, b2.st.trans q.st, q.xr⟩⟩
    · rw [if_neg hF] at hf; cases hf
  · simp only [h] at ex
    exact ex x δ1 rfl c dd H1 Z1 FS1 q1
/-- links, as they are written -/
inductive JL (E : En) (G : GC) (p : Pl) : List CmpOp → List Expr → List Lk → Prop
  | one {v q : Bool} {op : CmpOp} {e : Expr} {g : List D → Option D} {f : DS → Option ER} (ho : ∀ {X}, XO G X → BinOk G X (compareOp op) g) (he : JE E G p v q e f) : JL E G p [op] [e] [(g, f)]
  | cons {v q : Bool} {op op' : CmpOp} {ops : List CmpOp} {e e' : Expr} {es : List Expr} {g : List D → Option D} {f : DS → Option ER} {l : List Lk} (ho : ∀ {X}, XO G X → BinOk G X (compareOp op) g) (he : JE E G p v q e f) (r : JL E G p (op' :: ops) (e' :: es) l) : JL E G p (op :: op' :: ops) (e :: e' :: es) ((g, f) :: l)
theorem JL.ne {ops : List CmpOp} {es : List Expr} {l : List Lk} (h : JL E G p ops es l) : l.isEmpty = false := by cases h <;> rfl
theorem links_run (hG : G.K = E.K) (hA : At E p X) (hT : Takes X W) {ops : List CmpOp} {es : List Expr} {l : List Lk} (h : JL E G p ops es l) : ∀ {pins : List (Addr × Obj)} {s : Shared} {σ : L2.St} {H : Hp} {Q : VK} {d : D} {y : V} {u : Value} {pos : Pos}, Inv X pins σ H s → RelV y u → rdL G W l d y σ H Q →
    wpAny (model X.prog X.w) X.A (compareChain pos u ops (evalEach es X.env)) (EP X pins σ Q) X.xe s := by
  induction h with
  | one ho he =>
    intro pins s σ H Q d y u pos I ru hr
    refine chain_last (thn ((he X W hA hT).run pins s σ H _ I (rd_link (fun _ _ _ h => h) σ H Q hr)) fun w s1 ⟨x, H1, I1, r1, q1⟩ => ?_)
    refine wpAny_mono (ho (hA.xo hG) pins s1 σ H1 y x u w _ I1 ru r1 q1) (fun c s2 ⟨z, H2, I2, r2, k, e, q⟩ => ?_) fun _ _ x => x
    subst e
    exact ⟨.bl k, H2, I2, r2, q⟩
  | @cons v q op op' ops e e' es g f l ho he r ih =>
    intro pins s σ H Q d y u pos I ru hr
    refine chain_link (thn ((he X W hA hT).run pins s σ H _ I (rd_link (fun _ _ _ h => h) σ H Q hr)) fun w s1 ⟨x, H1, I1, r1, q1⟩ => thn (ho (hA.xo hG) pins s1 σ H1 y x u w _ I1 ru r1 q1) fun c s2 ⟨z, H2, I2, r2, k, e, q⟩ => ?_)
    subst e
    cases r2
    refine wpAny_truthy_bool ?_
    rw [r.ne] at q
    cases k with
    | false => exact ite_ff ⟨.bl false, H2, I2, rfl, q⟩
    | true =>
      obtain ⟨c, q⟩ := q
      exact ite_tt (ih I2 r1 q)
theorem links_test (hG : G.K = E.K) (hA : At E p X) (hT : Takes X W) {ops : List CmpOp} {es : List Expr} {l : List Lk} (h : JL E G p ops es l) : ∀ {pins : List (Addr × Obj)} {s : Shared} {σ : L2.St} {H : Hp} {Q : Bool → Hp → Prop} {d : D} {y : V} {u : Value} {pos : Pos}, Inv X pins σ H s → RelV y u → rdL G W l d y σ H (fun z H1 => ∃ k, z = .bl k ∧ Q k H1) →
    wpAny (model X.prog X.w) X.A (testChain pos u ops (evalEach es X.env)) (TP X pins σ Q) X.xe s := by
  induction h with
  | one ho he =>
    intro pins s σ H Q d y u pos I ru hr
    refine test_last (thn ((he X W hA hT).run pins s σ H _ I (rd_link (fun _ _ _ h => h) σ H _ hr)) fun w s1 ⟨x, H1, I1, r1, q1⟩ => thn (ho (hA.xo hG) pins s1 σ H1 y x u w _ I1 ru r1 q1) fun c s2 ⟨z, H2, I2, r2, k, e, q⟩ => ?_)
    subst e
    cases r2
    obtain ⟨k', e', q'⟩ := q
    cases e'
    exact wpAny_truthy_bool ⟨H2, I2, q'⟩
  | @cons v q op op' ops e e' es g f l ho he r ih =>
    intro pins s σ H Q d y u pos I ru hr
    refine test_link (thn ((he X W hA hT).run pins s σ H _ I (rd_link (fun _ _ _ h => h) σ H _ hr)) fun w s1 ⟨x, H1, I1, r1, q1⟩ => thn (ho (hA.xo hG) pins s1 σ H1 y x u w _ I1 ru r1 q1) fun c s2 ⟨z, H2, I2, r2, k, e, q⟩ => ?_)
    subst e
    cases r2
    refine wpAny_truthy_bool ?_
    rw [r.ne] at q
    cases k with
    | false =>
      obtain ⟨k', e', q'⟩ := q
      cases e'
      exact ite_ff ⟨H2, I2, q'⟩
    | true =>
      obtain ⟨c, q⟩ := q
      exact ite_tt (ih I2 r1 q)
/-- the first operand of a chain -/
theorem rd_first {v q : Bool} {fa : DS → Option ER} {l : List Lk} {te : TE} (ha : ∀ σ H Q, rdE G W v q fa σ H Q → te σ H Q) : ∀ σ H Q, rdE G W false false (evChainN fa l) σ H Q → te σ H fun y H1 => ∃ d, rdL G W l d y σ H1 Q := by
  rintro σ H Q ⟨δ, Z, S, FS, sr, ⟨w0, hf⟩, ok, ex⟩
  unfold evChainN at hf ok ex
  refine ha σ H _ ⟨δ, Z, S, FS, sr, ?_, fun a δ1 h y H1 Z1 FS1 A q1 => ?_, fun x δ1 h => ?_⟩
  · cases q : fa δ with
    | none => rw [q] at hf; cases hf
    | some w => exact ⟨w, rfl⟩
  · rw [h] at hf ok ex
    simp only at hf ok ex
    by_cases hF : isF a = true
    · rw [if_pos hF] at hf ok ex
      obtain ⟨ra, b1⟩ := q1.fzn hF
      refine ⟨a, δ1, Z1, S, FS1, b1.sr, ra, ⟨_, hf⟩, fun k δ' e H' Z' FS' b2 => ?_, fun x δ' e c dd H' Z' FS' q => ?_⟩
      · exact ok _ δ' e _ H' Z' FS' S0 (PostB.bl (q := false) ⟨b2.sr, b1.st.trans b2.st, fun q => absurd q Bool.false_ne_true⟩ k)
      · exact ex x δ' e c dd H' Z' FS' ⟨q.sr, b1.st.trans q.st, q.xr⟩
    · rw [if_neg hF] at hf; cases hf
  · rw [h] at ex
    exact ex x δ1 rfl
theorem j_chainN {v q : Bool} {op op' : CmpOp} {ops : List CmpOp} {a b c : Expr} {es : List Expr} {pos : Pos} {fa : DS → Option ER} {l : List Lk} (hG : G.K = E.K) (ha : JE E G p v q a fa) (hl : JL E G p (op :: op' :: ops) (b :: c :: es) l) (hm : lastMarks (op :: op' :: ops) (b :: c :: es) = false := by rfl) :
    JE E G p false false (.Compare a (op :: op' :: ops) (b :: c :: es) pos) (evChainN fa l) := fun X W hA hT => ⟨fun pins s σ H Q I h =>
  Compare_chain (thn ((ha X W hA hT).run pins s σ H _ I (rd_first (fun _ _ _ h => h) σ H Q h)) fun u s1 ⟨y, H1, I1, r1, d, q1⟩ => links_run hG hA hT hl I1 r1 q1) hm⟩
theorem j_tchainN {v q : Bool} {op op' : CmpOp} {ops : List CmpOp} {a b c : Expr} {es : List Expr} {pos : Pos} {fa : DS → Option ER} {l : List Lk} (hG : G.K = E.K) (ha : JE E G p v q a fa) (hl : JL E G p (op :: op' :: ops) (b :: c :: es) l) (hm : lastMarks (op :: op' :: ops) (b :: c :: es) = false := by rfl) :
    JT E G p false (.Compare a (op :: op' :: ops) (b :: c :: es) pos) (evTr blD (evChainN fa l)) := fun X W hA hT => ⟨fun pins s σ H Q I h => by
  have h2 := rd_trb (rd_first (G := G) (W := W) (fa := fa) (l := l) (v := v) (q := q) (te := rdE G W v q fa) fun _ _ _ h => h) σ H Q h
  exact isTrue_chain (thn ((ha X W hA hT).run pins s σ H _ I h2) fun u s1 ⟨y, H1, I1, r1, d, q1⟩ => links_test hG hA hT hl I1 r1 q1) hm⟩
end
end PD
/-! P, part 27: f(..).append(e): a new list changed and let go. -/
namespace PD
open PySem L2

def evAppT (fo f : DS → Option ER) : DS → Option ES := fun δ => match fo δ with
  | none => none
  | some (.ex x, δ1) => some (.ex x, δ1)
  | some (.ok d, δ1) => match d with
    | .lst .o xs => match f δ1 with
      | none => none
      | some (.ex x, δ2) => some (.ex x, δ2)
      | some (.ok _, δ2) => if xs.length < 1000000 then some (.nx, δ2) else none
    | _ => none
section
variable {E : En} {G : GC} {W : WX} {p : Pl} {n : Nat} {pn : List Nat}
theorem rd_appT {q1 v2 q2 : Bool} {fo f : DS → Option ER} {to te : TE} (ho : ∀ σ H Q, rdE G W false q1 fo σ H Q → to σ H Q) (ha : ∀ σ H Q, rdE G W v2 q2 f σ H Q → te σ H Q) : ∀ D σ H, rdS G W n pn (evAppT fo f) D σ H → tDrop (tBM G.K "list" rAppend to (tCons te tNil)) D σ H := by
  rintro D σ H ⟨hn, δ, Z, S, FS, sr, r, hr, w⟩
  unfold evAppT at hr
  refine ho σ H _ ⟨δ, Z, S, FS, sr, ?_, fun d δ1 h v H1 Z1 FS1 A q => ?_, fun x δ1 h c dd H1 Z1 FS1 q => ?_⟩
  · cases q : fo δ with
    | none => rw [q] at hr; cases hr
    | some w => exact ⟨w, rfl⟩
  · rw [h] at hr
    simp only at hr
    match d, hr, q with
    | .lst .o xs, hr, q =>
      have vl := q.vl
      rw [if_neg Bool.false_ne_true] at vl
      obtain ⟨rp, out⟩ := vl
      have got : ∃ a vs, v = .ref a ∧ H1 a = some (.lst vs) ∧ xs.length = vs.length ∧ A a := by
        cases rp with
        | fz h _ => exact absurd (show false = true from frz_of h) Bool.false_ne_true
        | lo h hl he hA => exact ⟨_, _, rfl, h, hl, (hA _).mpr rfl⟩
      obtain ⟨a, vs, rfl, ea, hl, hAa⟩ := got
      obtain ⟨nZ, nS, nF⟩ := out a hAa
      refine ⟨.inl ⟨rfl, vs, .inl (.inl ea)⟩, ?_⟩
      have b1 := q.b
      refine ha σ H1 _ ⟨δ1, Z1, S, FS1, b1.sr, ?_, fun c δ2 h2 w2 H2 Z2 FS2 A2 q2 => ?_, fun x δ2 h2 c dd H2 Z2 FS2 q2 => ?_⟩
      · cases q : f δ1 with
        | none => rw [q] at hr; cases hr
        | some w => exact ⟨w, rfl⟩
      · rw [h2] at hr
        simp only at hr
        by_cases hz : xs.length < 1000000
        · rw [if_pos hz] at hr
          cases hr
          have b2 := q2.b
          have e2 : H2 a = some (.lst vs) := b2.st.keep a _ ea nF
          have nZ2 : ¬ Z2 a := fun z => by
            rcases b2.st.znew a z with z | z | z
            · exact nZ z
            · exact nF z
            · rw [z] at ea; cases ea
          have nF2 : ¬ Own FS2 a := fun z => (b2.st.pnew a z).elim nF fun q => by rw [q] at ea; cases ea
          refine ⟨a, vs, w2, rfl, rfl, e2, by rw [← hl, sizeLine_eq]; omega, ?_⟩
          have st := b1.st.trans b2.st
          refine w.nx _ rfl σ _ Z2 FS2 ⟨b2.sr.other nZ2 nS nF2, ⟨fun x o e hx => ?_, fun x o e => ?_, st.zin, st.znew, st.pnew⟩, Pin.refl _ _⟩
          · have := st.keep x o e hx
            rw [upd_ne]; exact this
            rintro rfl
            rcases q.st.pnew x (.inr hAa) with z | z
            · exact hx z
            · rw [z] at e; cases e
          · by_cases hxa : x = a
            · rw [hxa]; exact ⟨_, upd_same⟩
            · rw [upd_ne hxa]; exact st.there x o e
        · rw [if_neg hz] at hr; cases hr
      · rw [h2] at hr; cases hr
        exact w.ex x _ rfl c dd σ H2 Z2 FS2 ⟨q2.sr, b1.st.trans q2.st, q2.xr, Pin.refl _ _⟩
  · rw [h] at hr; cases hr
    exact w.ex x _ rfl c dd σ H1 Z1 FS1 q.q
theorem s_appT {q1 v2 q2 : Bool} {o e : Expr} {a c pos : Pos} {fo f : DS → Option ER} (hG : G.K = E.K) (ho : JE E G p false q1 o fo) (ha : JE E G p v2 q2 e f) (h0 : ∀ env : Env, attributeBase o (Str.ofString "append") env (eval o env) = eval o env := by exact fun _ => rfl) (hs : StarNo e [] := by exact fun _ => rfl) (hp : (a.endLine == c.line) = true := by rfl)
    (h2 : ∀ env : Env, ((((backTo c (starEach [e] env)).all fun x => !x.1) && ((backToKw c (keywordEach [] env)).all fun x => x.1.isSome)) && decide (([e].length + ([] : List Keyword).length + if ([] : List Keyword).isEmpty = true then 0 else 1) < 30)) = true := by exact fun _ => rfl)
    (h3 : ∀ env : Env, swapsWith (.Call (.Attribute o (Str.ofString "append") a) [e] [] c) none pos.line env = pure false := by exact fun _ => rfl) : JS E G p n pn (.Expr (.Call (.Attribute o (Str.ofString "append") a) [e] [] c) pos) (evAppT fo f) := fun X W hA hT _ => by
  have P0 := ps_expr (pos := pos) (pe_bm (apos := a) (cpos := c) PySem.F.plainAttrs_list PySem.F.slot_list_append PySem.F.type_list_append mt_append (ho X W hA hT) (pa_cons (ha X W hA hT) pa_nil (hs _)) (h0 _) (h2 _) hp (hs _) (by rfl)) (h3 _)
  refine PS.mono P0 ?_
  have := rd_appT (G := G) (W := W) (n := n) (pn := pn) (fo := fo) (f := f) (q1 := q1) (v2 := v2) (q2 := q2) (to := rdE G W false q1 fo) (te := rdE G W v2 q2 f) (fun _ _ _ h => h) fun _ _ _ h => h
  rw [hG, ← hA.K] at this
  exact this
end
end PD
/-! P, part 28: try .. except X as n: return e. -/
namespace PD
open PySem L2

def sv : D → Option V
  | .non => some .non
  | .bl b => some (.bl b)
  | .int i => some (.int i)
  | .str z => some (.str z)
  | _ => none
def evTryAs (nc : Nat) (exm : Nat → Nat → Bool) (ci : Nat) (fx : Nat → Option D) (body : DS → Option ES) : DS → Option ES := fun δ => match body δ with
  | some (.ex x, δ') => if x.c < nc then (if exm x.c ci = true then (if x.fs.isEmpty = true then (match fx x.c with
      | some d => if (sv d).isSome then some (.rt d, δ') else none
      | none => none) else none) else some (.ex x, δ')) else none
  | r => r
def xIf (ft : Nat → Option Bool) (fa fb : Nat → Option D) : Nat → Option D := fun c => match ft c with | some true => fa c | some false => fb c | none => none
def xVal (fx : Nat → Option D) : Nat → Option Bool := fun c => (fx c).bind blD
def xCst (d : D) : Nat → Option D := fun _ => some d
def xIs (exm : Nat → Nat → Bool) (j : Nat) : Nat → Option D := fun c => some (.bl (exm c j))
section
variable {E : En} {G : GC} {p : Pl} {X : Cx} {n : Nat} {pn : List Nat} {i nc : Nat}
/-- an expression in the suite: c is the class of the exception that slot i holds -/
def JX (E : En) (G : GC) (p : Pl) (i nc : Nat) (e : Expr) (fx : Nat → Option D) : Prop := ∀ X a c oe l, At E p X → c < nc → Zc (.ref (G.cls c)) none oe → (∃ vs, oe.data = .fields vs) → ∀ d v, fx c = some d → sv d = some v →
  PE (X.suite a ((a, oe) :: l)) e (fun σ H Q => σ[i]? = some (some (.ref a)) ∧ Q v H)
def JXT (E : En) (G : GC) (p : Pl) (i nc : Nat) (e : Expr) (ft : Nat → Option Bool) : Prop := ∀ X a c oe l, At E p X → c < nc → Zc (.ref (G.cls c)) none oe → (∃ vs, oe.data = .fields vs) → ∀ b, ft c = some b →
  PT (X.suite a ((a, oe) :: l)) e (fun σ H Q => σ[i]? = some (some (.ref a)) ∧ Q b H)
theorem x_int {k : Int} {j : Nat} {pos : Pos} : JX E G p i nc (.Constant (.int k) j pos) (xCst (.int k)) := fun X a c oe l hA hc hz hf d v e1 e2 => by
  cases e1; cases e2; exact PE.mono pe_int fun σ H Q h => h.2
theorem x_str {k : Str} {j : Nat} {pos : Pos} : JX E G p i nc (.Constant (.str k) j pos) (xCst (.str k)) := fun X a c oe l hA hc hz hf d v e1 e2 => by
  cases e1; cases e2; exact PE.mono pe_str fun σ H Q h => h.2
theorem x_bl {k : Bool} {j : Nat} {pos : Pos} : JX E G p i nc (.Constant (.bool k) j pos) (xCst (.bl k)) := fun X a c oe l hA hc hz hf d v e1 e2 => by
  cases e1; cases e2; exact PE.mono pe_bl fun σ H Q h => h.2
theorem x_non {j : Nat} {pos : Pos} : JX E G p i nc (.Constant .none j pos) (xCst .non) := fun X a c oe l hA hc hz hf d v e1 e2 => by
  cases e1; cases e2; exact PE.mono pe_non fun σ H Q h => h.2
/-- what isinstance asks of the classes -/
structure IsOk (E : En) (G : GC) (nc : Nat) (exm : Nat → Nat → Bool) : Prop where
  cls : ∀ c, c < nc → ExcC E.K (G.cls c)
  kit : ∀ c j, c < nc → j < nc → PySem.W.kitOne E.K (.ref (G.cls c)) (.ref (G.cls j)) = some (exm c j)
theorem x_is {exm : Nat → Nat → Bool} {x y z : Str} {j : Nat} {q q2 q3 pos : Pos} (K : IsOk E G nc exm) (hj : j < nc) (hx : x = Str.ofString "isinstance") (hg : glOk p x = true) (hm : E.mg x = none) (hy : nmOk p i y = true) (hgz : glOk p z = true) (hmz : E.mg z = some (.ref (G.cls j))) :
    JX E G p i nc (.Call (.Name x q) [.Name y q2, .Name z q3] [] pos) (xIs exm j) := fun X a c oe l hA hc hz hf d v e1 e2 => by
  cases e1; cases e2
  have hS := hA.su a ((a, oe) :: l)
  obtain ⟨g1, g2, g3⟩ := at_gl (p := p.su) hg hS
  obtain ⟨k1, k2, k3⟩ := at_gl (p := p.su) hgz hS
  have hb : bootBuiltins x = some (.builtin "isinstance") := by rw [hx]; decide +kernel
  have C := K.cls c hc
  rw [← hA.K] at C
  refine PE.mono (pe_callB (call_isE C hz hf) g1 (by rw [hS.mg]; exact hm) hb (pa_cons (at_pe (p := p.su) hy hS) (pa_cons (pe_glob (v := .ref (G.cls j)) k1 (by rw [hS.mg]; exact hmz) rfl k2) pa_nil (by rfl)) (by rfl)) g3 g2 (by rfl) (by rfl)) fun σ H Q h => ?_
  have kt := K.kit c j hc hj
  rw [← hA.K] at kt
  exact ⟨_, h.1, _, .ref (G.cls j), exm c j, rfl, fun u r => r, kt, h.2⟩
theorem blD_eq {d : D} {b : Bool} (h : blD d = some b) : d = .bl b := by
  cases d <;> first | (cases h; rfl) | cases h
theorem x_val {e : Expr} {fx : Nat → Option D} (h : JX E G p i nc e fx) (he : PlainT e := by exact fun _ _ => rfl) : JXT E G p i nc e (xVal fx) := fun X a c oe l hA hc hz hf b e1 => by
  obtain ⟨d, q, e2⟩ := Option.bind_eq_some_iff.mp e1
  have := blD_eq e2
  subst this
  exact PT.mono (pt_val (h X a c oe l hA hc hz hf _ _ q rfl) (he _)) fun σ H Q q => ⟨q.1, b, rfl, q.2⟩
theorem x_if {c0 a0 b0 : Expr} {pos : Pos} {ft : Nat → Option Bool} {fa fb : Nat → Option D} (hc : JXT E G p i nc c0 ft) (ha : JX E G p i nc a0 fa) (hb : JX E G p i nc b0 fb) : JX E G p i nc (.IfExp c0 a0 b0 pos) (xIf ft fa fb) := fun X a c oe l hA hcn hz hf d v e1 e2 => by
  unfold xIf at e1
  cases q : ft c with
  | none => rw [q] at e1; cases e1
  | some b =>
    rw [q] at e1
    have t := hc X a c oe l hA hcn hz hf b q
    cases b with
    | true =>
      have r := ha X a c oe l hA hcn hz hf d v e1 e2
      exact PE.mono (pe_ifExp t r (ta := _) (PE.mk (t := fun _ _ _ => False) fun _ _ _ _ _ _ h => h.elim)) fun σ H Q h => ⟨h.1, by dsimp only; rw [if_pos rfl]; exact h⟩
    | false =>
      have r := hb X a c oe l hA hcn hz hf d v e1 e2
      exact PE.mono (pe_ifExp t (ta := fun _ _ _ => False) (PE.mk fun _ _ _ _ _ _ h => h.elim) r) fun σ H Q h => ⟨h.1, by dsimp only; rw [if_neg Bool.false_ne_true]; exact h⟩
theorem s_tryAs {exm : Nat → Nat → Bool} {ci : Nat} {fx : Nat → Option D} {x nm : Str} {e : Expr} {body : List Stmt} {f : DS → Option ES} {np pos pos' rpos : Pos} (hG : G.K = E.K) (hb : JSs E G p n pn body f) (he : JX E G p i nc e fx) (hg : glOk p x = true) (hm : E.mg x = some (.ref (G.cls ci))) (hci : ci < nc) (hx : HxOk E G nc exm)
    (hN : p.N.Nodup) (hi : p.N[i]? = some nm) (hln : p.sc.names.lookup nm = some .local) (hin : i < n) (hib : p.inb = false := by rfl) : JS E G p n pn (.Try body [.ExceptHandler (some (.Name x np)) (some nm) [.Return (some e) rpos] pos'] [] [] pos) (evTryAs nc exm ci fx f) := fun X W hA hT hP => by
  obtain ⟨s1, s2⟩ := hA.stk hib
  obtain ⟨g1, g2, _⟩ := at_gl hg hA
  let ts : Addr → Value → Option Addr → TS := fun a cls d D σ H => ∃ c dd v, c < nc ∧ cls = .ref (G.cls c) ∧ d = none ∧ fx c = some dd ∧ sv dd = some v ∧ σ[i]? = some (some (.ref a)) ∧ D.rt v H
  refine PS.mono (ps_try_as (i := i) s1 s2 (by rw [hA.N]; exact hN) (by rw [hA.N]; exact hi) (by show X.env.scope.names.lookup nm = _; rw [hA.sc]; exact hln) ⟨g1, g2, .inl (by rw [hA.mg]; exact hm)⟩ hT (tb := fun W => rdS G W n pn f) (ts := ts)
    (fun W' l' xe tk po => hb _ W' (hA.tr l' xe) tk po) (fun a oe cls d l hz hf => ⟨fun pins s σ H D I h => ?_⟩)) fun D σ H h => ?_
  · obtain ⟨c, dd, v, hc, rfl, rfl, e1, e2, e3, q⟩ := h
    exact (pss_cons (ps_ret (he X a c oe l hA hc hz hf dd v e1 e2)) pss_nil).run pins s σ H D I ⟨e3, q⟩
  · obtain ⟨hn, δ, Z, S, FS, sr, r, hr, w⟩ := h
    unfold evTryAs at hr
    cases q : f δ with
    | none => rw [q] at hr; cases hr
    | some o =>
      obtain ⟨o, δ2⟩ := o
      rw [q] at hr
      refine ⟨hn, δ, Z, S, FS, sr, (o, δ2), q, ?_⟩
      cases o with
      | nx => cases hr; exact ⟨w.nx, w.bk, w.ct, w.rt, fun _ _ e => by cases e⟩
      | bk => cases hr; exact ⟨w.nx, w.bk, w.ct, w.rt, fun _ _ e => by cases e⟩
      | ct => cases hr; exact ⟨w.nx, w.bk, w.ct, w.rt, fun _ _ e => by cases e⟩
      | rt d => cases hr; exact ⟨w.nx, w.bk, w.ct, w.rt, fun _ _ e => by cases e⟩
      | ex x' =>
        simp only at hr
        by_cases hc : x'.c < nc
        · rw [if_pos hc] at hr
          refine ⟨fun _ e => (by cases e), fun _ e => (by cases e), fun _ e => (by cases e), fun _ _ e => (by cases e), fun y δ' e c dd σ' H' Z' FS' pq => ?_⟩
          cases e
          have ex := hx x'.c ci hc hci
          rw [← hA.K] at ex
          refine ⟨exm x'.c ci, by rw [pq.xr.1]; exact ex, fun hbt a _ => ?_, fun hbf => ?_⟩
          · rw [if_pos hbt] at hr
            by_cases hfs : x'.fs.isEmpty = true
            · rw [if_pos hfs] at hr
              have dn : dd = none := by
                rcases pq.xr.2 with ⟨_, h⟩ | ⟨h, _⟩
                · exact h
                · exact absurd (List.isEmpty_iff.mp hfs) h
              cases e1 : fx x'.c with
              | none => rw [e1] at hr; cases hr
              | some d =>
                rw [e1] at hr
                simp only at hr
                cases e2 : sv d with
                | none => rw [e2] at hr; cases hr
                | some v =>
                  rw [e2] at hr
                  cases hr
                  have hl' : i < σ'.length := by rw [pq.pn.1, hn]; exact hin
                  refine ⟨x'.c, d, v, hc, pq.xr.1, dn, e1, e2, by rw [List.getElem?_set_self hl'], ?_⟩
                  have rf : ∀ Z H, RepF G Z H d v := fun Z H => by
                    cases d <;> first | (cases e2; constructor; done) | cases e2
                  exact w.rt d _ rfl v σ' H' Z' FS' S0 ⟨pq.sr, pq.st.sub fun a z => z.elim id fun q => q.elim, ⟨.fz (rf _ _) fun _ z => z, fun x z => z.elim⟩, pq.pn⟩
            · rw [if_neg hfs] at hr; cases hr
          · rw [if_neg (by rw [hbf]; exact Bool.false_ne_true)] at hr
            cases hr
            exact w.ex x' _ rfl c dd σ' H' Z' FS' pq
        · rw [if_neg hc] at hr; cases hr
end
end PD
/-! P, part 29: the newer pieces told forwards. -/
namespace PD
open PySem L2
section
variable {Q : RR D → DS → Prop} {QS : Out → DS → Prop} {δ : DS}
theorem g_raise {c : Nat} {fa : DS → Option EA} : Go (evRaise c fa) δ QS = GE fa δ (kS (fun ds δ' => ds.length ≤ 1000 ∧ QS (.ex ⟨c, []⟩) δ') QS) :=
  Eq.trans (bindS (h := fun ds δ' => if ds.length ≤ 1000 then some (.ex ⟨c, []⟩, δ') else none) (by unfold evRaise; rcases fa δ with _ | ⟨_ | _, _⟩ <;> rfl)) (congrArg _ (kSc fun _ _ => by rw [iteN, ex2]))
theorem e_isi {T : String} {f : DS → Option ER} : GE (evIsi T f) δ Q = GE f δ (kk (fun d δ' => has (tyOf d) fun a => Q (.ok (.bl (isT a T))) δ') Q) :=
  Eq.trans (bindG (h := fun d δ' => match tyOf d with | none => none | some a => some (.ok (.bl (isT a T)), δ')) (by unfold evIsi; rcases f δ with _ | ⟨_ | _, _⟩ <;> rfl)) (congrArg _ (kkc fun d δ' => by generalize tyOf d = o; cases o with | none => rw [has_none]; exact ex2n | some a => rw [has_some]; exact ex2))
theorem g_asgT {tg : D → DS → Option DS} {f : DS → Option ER} : Go (evAsgT tg f) δ QS = GE f δ (kS (fun d δ' => isF d = true ∧ has (tg d δ') fun δ2 => QS .nx δ2) QS) :=
  Eq.trans (bindS (h := fun d δ' => if isF d then match tg d δ' with | none => none | some δ2 => some (.nx, δ2) else none) (by unfold evAsgT; rcases f δ with _ | ⟨_ | _, _⟩ <;> rfl)) (congrArg _ (kSc fun d δ' => by
    rw [iteN]
    generalize tg d δ' = o
    cases o with
    | none => rw [has_none]; exact congrArg _ ex2n
    | some a => rw [has_some]; exact congrArg _ ex2))
theorem e_grd {c : D → Bool} {f : DS → Option ER} : GE (evGuard c f) δ Q = GE f δ (kk (fun d δ' => c d = true ∧ Q (.ok d) δ') Q) :=
  Eq.trans (bindG (h := fun d δ' => if c d then some (.ok d, δ') else none) (by unfold evGuard; rcases f δ with _ | ⟨_ | _, _⟩ <;> rfl)) (congrArg _ (kkc fun d δ' => by rw [iteN, ex2]))
end
end PD
/-! P, part 30: try and chains told forwards. -/
namespace PD
open PySem L2
/-- what is wanted of a clause's outcome: no exception -/
def noX (Q : Out → DS → Prop) : Out → DS → Prop
  | .ex _, _ => False
  | o, δ => Q o δ
def hdQ (exm : Nat → Nat → Bool) (x : Xc) (Q : Out → DS → Prop) : List (Nat × (DS → Option ES)) → DS → Prop
  | [], δ => Q (.ex x) δ
  | (c, f) :: r, δ => if exm x.c c = true then Go f δ (noX Q) else hdQ exm x Q r δ
def tryQ (nc : Nat) (exm : Nat → Nat → Bool) (l : List (Nat × (DS → Option ES))) (Q : Out → DS → Prop) : Out → DS → Prop
  | .ex x, δ => x.c < nc ∧ hdQ exm x Q l δ
  | o, δ => Q o δ
section
variable {QS : Out → DS → Prop} {δ : DS}
theorem hd_go {exm : Nat → Nat → Bool} {x : Xc} : ∀ {l : List (Nat × (DS → Option ES))} {δ : DS}, hdQ exm x QS l δ → ∃ r δ2, evHd exm x l δ = some (r, δ2) ∧ QS r δ2
  | [], δ, h => ⟨_, _, rfl, h⟩
  | (c, f) :: r, δ, h => by
    rw [hdQ] at h
    rw [evHd]
    by_cases hc : exm x.c c = true
    · rw [if_pos hc] at h ⊢
      obtain ⟨o, δ2, e, q⟩ := h
      rw [e]
      cases o with
      | ex y => exact q.elim
      | nx => exact ⟨_, _, rfl, q⟩
      | bk => exact ⟨_, _, rfl, q⟩
      | ct => exact ⟨_, _, rfl, q⟩
      | rt d => exact ⟨_, _, rfl, q⟩
    · rw [if_neg hc] at h ⊢
      exact hd_go h
theorem go_try {nc : Nat} {exm : Nat → Nat → Bool} {l : List (Nat × (DS → Option ES))} {body : DS → Option ES} (h : Go body δ (tryQ nc exm l QS)) : Go (evTry nc exm l body) δ QS := by
  obtain ⟨o, δ2, e, q⟩ := h
  unfold Go evTry
  rw [e]
  cases o with
  | ex x =>
    simp only
    rw [if_pos q.1]
    exact hd_go q.2
  | nx => exact ⟨_, _, rfl, q⟩
  | bk => exact ⟨_, _, rfl, q⟩
  | ct => exact ⟨_, _, rfl, q⟩
  | rt d => exact ⟨_, _, rfl, q⟩
end
end PD
/-! P, part 31: chains of any length told forwards. -/
namespace PD
open PySem L2
def lkQ : List Lk → D → DS → (RR D → DS → Prop) → Prop
  | [], _, _, _ => False
  | (g, f) :: rest, d, δ, Q => GE f δ (kk (fun c δ1 => isF c = true ∧ has (g [d, c]) fun e => has (blD e) fun k => if (rest.isEmpty || !k) = true then Q (.ok (.bl k)) δ1 else lkQ rest c δ1 Q) Q)
theorem lk_go {Q : RR D → DS → Prop} : ∀ {l : List Lk} {d : D} {δ : DS}, lkQ l d δ Q → ∃ r δ2, evLinks l d δ = some (r, δ2) ∧ Q r δ2
  | [], d, δ, h => h.elim
  | (g, f) :: rest, d, δ, h => by
    obtain ⟨r, δ1, e, q⟩ := h
    rw [evLinks, e]
    cases r with
    | ex x => exact ⟨_, _, rfl, q⟩
    | ok c =>
      obtain ⟨hF, e1, q1, k, q2, q⟩ := q
      have := blD_eq q2
      subst this
      simp only
      rw [if_pos hF, q1]
      simp only
      by_cases hk : (rest.isEmpty || !k) = true
      · rw [if_pos hk] at q ⊢
        exact ⟨_, _, rfl, q⟩
      · rw [if_neg hk] at q ⊢
        exact lk_go q
theorem ge_chainN {fa : DS → Option ER} {l : List Lk} {δ : DS} {Q : RR D → DS → Prop} (h : GE fa δ (kk (fun a δ1 => isF a = true ∧ lkQ l a δ1 Q) Q)) : GE (evChainN fa l) δ Q := by
  obtain ⟨r, δ1, e, q⟩ := h
  unfold GE evChainN
  rw [e]
  cases r with
  | ex x => exact ⟨_, _, rfl, q⟩
  | ok a =>
    simp only
    rw [if_pos q.1]
    exact lk_go q.2
end PD
/-! P, part 32: what isinstance asks of own exception classes, read off the heap. -/
namespace PD
open PySem L2
def gcN (ns : List Str) (K : PySem.W.Frag) : GC := ⟨K, fun i => He.ga K (ns.getD i ""), fun _ => Str.ofString ""⟩
def excB (K : PySem.W.Frag) (D : Addr) : Bool :=
  decide (PySem.W.findIn K (.ref D) "__getattribute__" = some (some (.builtin "BaseException.__getattribute__"))) &&
  (decide (PySem.W.findIn K (.ref D) "__getattr__" = some none) &&
  (decide (PySem.W.subIn K (.ref D) (.type "BaseException") = some true) &&
  (PySem.W.hasDictIn K D &&
  (decide (PySem.W.findIn K (.ref D) "__class__" = some (some (.builtin "object.__class__"))) &&
  (decide (PySem.W.specialIn K (.builtin "object.__class__") "__get__" = some (some (.builtin "getset_descriptor.__get__"))) &&
  (decide (PySem.W.takesIn K (.builtin "object.__class__") = some true) &&
  decide (PySem.W.mroIn K D (.type "object") = some true)))))))
theorem excB_ok {K : PySem.W.Frag} {D : Addr} (h : excB K D = true) : ExcC K D := by
  obtain ⟨h1, h⟩ := He.ba h
  obtain ⟨h2, h⟩ := He.ba h
  obtain ⟨h3, h⟩ := He.ba h
  obtain ⟨h4, h⟩ := He.ba h
  obtain ⟨h5, h⟩ := He.ba h
  obtain ⟨h6, h⟩ := He.ba h
  obtain ⟨h7, h8⟩ := He.ba h
  exact ⟨of_decide_eq_true h1, of_decide_eq_true h2, of_decide_eq_true h3, h4, of_decide_eq_true h5, of_decide_eq_true h6, of_decide_eq_true h7, of_decide_eq_true h8⟩
def isB (ns : List Str) (exm : Nat → Nat → Bool) (K : PySem.W.Frag) : Bool :=
  (List.range ns.length).all fun i => excB K (He.ga K (ns.getD i "")) && (List.range ns.length).all fun j => decide (PySem.W.kitOne K (.ref (He.ga K (ns.getD i ""))) (.ref (He.ga K (ns.getD j ""))) = some (exm i j))
theorem isB_ok {ns : List Str} {exm : Nat → Nat → Bool} {E : En} (h : isB ns exm E.K = true) : IsOk E (gcN ns E.K) ns.length exm :=
  ⟨fun c hc => excB_ok (He.ba (List.all_eq_true.mp h c (List.mem_range.mpr hc))).1,
   fun c j hc hj => of_decide_eq_true (List.all_eq_true.mp (He.ba (List.all_eq_true.mp h c (List.mem_range.mpr hc))).2 j (List.mem_range.mpr hj))⟩
end PD
/-! P, part 33: try .. as, f(..).append(e), chains told forwards as equations; texts. -/
namespace PD
open PySem L2
def tasQ (nc : Nat) (exm : Nat → Nat → Bool) (ci : Nat) (fx : Nat → Option D) (Q : Out → DS → Prop) : Out → DS → Prop
  | .ex x, δ => x.c < nc ∧ if exm x.c ci = true then x.fs.isEmpty = true ∧ has (fx x.c) fun d => (sv d).isSome = true ∧ Q (.rt d) δ else Q (.ex x) δ
  | o, δ => Q o δ
section
variable {Q : RR D → DS → Prop} {QS : Out → DS → Prop} {δ : DS}
theorem bindO {f f' : DS → Option ES} {Q R : Out → DS → Prop} {δ : DS} (h : Out → DS → Option ES) (e : f' δ = match f δ with | none => none | some (o, δ') => h o δ') (hq : ∀ o δ', (∃ r δ2, h o δ' = some (r, δ2) ∧ Q r δ2) = R o δ') : Go f' δ Q = Go f δ R := by
  unfold Go
  rw [e]
  cases f δ with
  | none => simp
  | some w =>
    obtain ⟨o, δ1⟩ := w
    exact (hq o δ1).trans (propext ⟨fun q => ⟨_, _, rfl, q⟩, fun ⟨_, _, e, q⟩ => (by cases e; exact q)⟩)
theorem hd_eq {exm : Nat → Nat → Bool} {x : Xc} : ∀ {l : List (Nat × (DS → Option ES))} {δ : DS}, (∃ r δ2, evHd exm x l δ = some (r, δ2) ∧ QS r δ2) = hdQ exm x QS l δ
  | [], δ => ex2
  | (c, f) :: r, δ => by
    rw [hdQ, evHd]
    by_cases hc : exm x.c c = true
    · rw [if_pos hc, if_pos hc]
      unfold Go
      cases f δ with
      | none => simp
      | some w =>
        obtain ⟨o, δ1⟩ := w
        refine Eq.trans ?_ (show noX QS o δ1 = _ from propext ⟨fun q => ⟨_, _, rfl, q⟩, fun ⟨_, _, e, q⟩ => (by cases e; exact q)⟩)
        cases o with
        | ex y => exact ex2n
        | nx => exact ex2
        | bk => exact ex2
        | ct => exact ex2
        | rt d => exact ex2
    · rw [if_neg hc, if_neg hc]
      exact hd_eq
theorem g_try {nc : Nat} {exm : Nat → Nat → Bool} {l : List (Nat × (DS → Option ES))} {body : DS → Option ES} : Go (evTry nc exm l body) δ QS = Go body δ (tryQ nc exm l QS) := by
  refine bindO (fun o δ' => match o with | .ex x => if x.c < nc then evHd exm x l δ' else none | o => some (o, δ')) (by unfold evTry; rcases body δ with _ | ⟨_ | _ | _ | _ | _, _⟩ <;> rfl) fun o δ' => ?_
  cases o with
  | ex x => exact iteN.trans (congrArg _ hd_eq)
  | nx => exact ex2
  | bk => exact ex2
  | ct => exact ex2
  | rt d => exact ex2
theorem g_tryAs {nc : Nat} {exm : Nat → Nat → Bool} {ci : Nat} {fx : Nat → Option D} {body : DS → Option ES} : Go (evTryAs nc exm ci fx body) δ QS = Go body δ (tasQ nc exm ci fx QS) := by
  refine bindO (fun o δ' => match o with
    | .ex x => if x.c < nc then (if exm x.c ci = true then (if x.fs.isEmpty = true then (match fx x.c with
      | some d => if (sv d).isSome then some (.rt d, δ') else none
      | none => none) else none) else some (.ex x, δ')) else none
    | o => some (o, δ')) (by unfold evTryAs; rcases body δ with _ | ⟨_ | _ | _ | _ | _, _⟩ <;> rfl) fun o δ' => ?_
  cases o with
  | ex x =>
    refine iteN.trans (congrArg _ (iteC.trans ?_))
    refine congr (congrArg _ (iteN.trans (congrArg _ ?_))) ex2
    cases fx x.c with
    | none => rw [has_none]; exact ex2n
    | some d => rw [has_some]; exact iteN.trans (congrArg _ ex2)
  | nx => exact ex2
  | bk => exact ex2
  | ct => exact ex2
  | rt d => exact ex2
theorem g_appT {fo f : DS → Option ER} : Go (evAppT fo f) δ QS = GE fo δ (kS (fun d δ1 => has (lstO d) fun xs => GE f δ1 (kS (fun _ δ2 => xs.length < 1000000 ∧ QS .nx δ2) QS)) QS) := by
  refine Eq.trans (bindS (h := fun d δ1 => match d with | .lst .o xs => (match f δ1 with | none => none | some (.ex x, δ2) => some (.ex x, δ2) | some (.ok _, δ2) => if xs.length < 1000000 then some (.nx, δ2) else none) | _ => none) (by unfold evAppT; rcases fo δ with _ | ⟨_ | _, _⟩ <;> rfl)) (congrArg _ (kSc fun d δ1 => ?_))
  cases d with
  | lst m xs =>
    cases m with
    | o =>
      rw [show lstO (.lst .o xs) = some xs from rfl, has_some]
      exact bindS (f := f) (f' := fun δ1 => match f δ1 with | none => none | some (.ex x, δ2) => some (.ex x, δ2) | some (.ok _, δ2) => if xs.length < 1000000 then some (.nx, δ2) else none) (h := fun _ δ2 => if xs.length < 1000000 then some (.nx, δ2) else none) (by rcases f δ1 with _ | ⟨_ | _, _⟩ <;> rfl) |>.trans (congrArg _ (kSc fun _ _ => iteN.trans (congrArg _ ex2)))
    | _ => rw [show lstO _ = none from rfl, has_none]; exact ex2n
  | _ => rw [show lstO _ = none from rfl, has_none]; exact ex2n
theorem lk_eq : ∀ {l : List Lk} {d : D} {δ : DS}, (∃ r δ2, evLinks l d δ = some (r, δ2) ∧ Q r δ2) = lkQ l d δ Q
  | [], d, δ => ex2n
  | (g, f) :: rest, d, δ => by
    rw [lkQ]
    refine Eq.trans (bindG (f := f) (f' := fun δ => evLinks ((g, f) :: rest) d δ) (h := fun c δ1 => if isF c then match g [d, c] with
        | some (.bl k) => if rest.isEmpty || !k then some (.ok (.bl k), δ1) else evLinks rest c δ1
        | _ => none
      else none) (by rw [evLinks]; rcases f δ with _ | ⟨_ | _, _⟩ <;> rfl)) (congrArg _ (kkc fun c δ1 => ?_))
    refine iteN.trans (congrArg _ ?_)
    cases g [d, c] with
    | none => rw [has_none]; exact ex2n
    | some e =>
      rw [has_some]
      cases e with
      | bl k =>
        rw [show blD (.bl k) = some k from rfl, has_some]
        exact iteC.trans (congr (congrArg _ ex2) lk_eq)
      | _ => rw [show blD _ = none from rfl, has_none]; exact ex2n
theorem e_chainN {fa : DS → Option ER} {l : List Lk} {δ : DS} {Q : RR D → DS → Prop} : GE (evChainN fa l) δ Q = GE fa δ (kk (fun a δ1 => isF a = true ∧ lkQ l a δ1 Q) Q) :=
  Eq.trans (bindG (h := fun a δ1 => if isF a then evLinks l a δ1 else none) (by unfold evChainN; rcases fa δ with _ | ⟨_ | _, _⟩ <;> rfl)) (congrArg _ (kkc fun a δ1 => iteN.trans (congrArg _ lk_eq)))
theorem lkQ_1 {g : List D → Option D} {f : DS → Option ER} {d : D} : lkQ [(g, f)] d δ Q = GE f δ (kk (fun c δ1 => isF c = true ∧ has (g [d, c]) fun e => has (blD e) fun k => Q (.ok (.bl k)) δ1) Q) := rfl
theorem lkQ_2 {g : List D → Option D} {f : DS → Option ER} {a : Lk} {l : List Lk} {d : D} : lkQ ((g, f) :: a :: l) d δ Q = GE f δ (kk (fun c δ1 => isF c = true ∧ has (g [d, c]) fun e => has (blD e) fun k => if k = true then lkQ (a :: l) c δ1 Q else Q (.ok (.bl false)) δ1) Q) := by
  rw [lkQ]
  refine congrArg _ (kkc fun c δ1 => congrArg _ (congrArg _ (funext fun e => congrArg _ (funext fun k => ?_))))
  cases k <;> rfl
theorem noX_rt {d : D} : noX QS (.rt d) δ = QS (.rt d) δ := rfl
theorem noX_nx : noX QS .nx δ = QS .nx δ := rfl
theorem noX_bk : noX QS .bk δ = QS .bk δ := rfl
theorem noX_ct : noX QS .ct δ = QS .ct δ := rfl
theorem hdQ_0 {exm : Nat → Nat → Bool} {x : Xc} : hdQ exm x QS [] δ = QS (.ex x) δ := rfl
theorem hdQ_s {exm : Nat → Nat → Bool} {x : Xc} {c : Nat} {f : DS → Option ES} {r : List (Nat × (DS → Option ES))} : hdQ exm x QS ((c, f) :: r) δ = if exm x.c c = true then Go f δ (noX QS) else hdQ exm x QS r δ := rfl
section
variable {nc : Nat} {exm : Nat → Nat → Bool} {l : List (Nat × (DS → Option ES))} {ci : Nat} {fx : Nat → Option D} {x : Xc} {d : D}
theorem tryQ_ex : tryQ nc exm l QS (.ex x) δ = (x.c < nc ∧ hdQ exm x QS l δ) := rfl
theorem tryQ_rt : tryQ nc exm l QS (.rt d) δ = QS (.rt d) δ := rfl
theorem tryQ_nx : tryQ nc exm l QS .nx δ = QS .nx δ := rfl
theorem tryQ_bk : tryQ nc exm l QS .bk δ = QS .bk δ := rfl
theorem tryQ_ct : tryQ nc exm l QS .ct δ = QS .ct δ := rfl
theorem tasQ_ex : tasQ nc exm ci fx QS (.ex x) δ = (x.c < nc ∧ if exm x.c ci = true then x.fs.isEmpty = true ∧ has (fx x.c) fun d => (sv d).isSome = true ∧ QS (.rt d) δ else QS (.ex x) δ) := rfl
theorem tasQ_rt : tasQ nc exm ci fx QS (.rt d) δ = QS (.rt d) δ := rfl
theorem tasQ_nx : tasQ nc exm ci fx QS .nx δ = QS .nx δ := rfl
theorem tasQ_bk : tasQ nc exm ci fx QS .bk δ = QS .bk δ := rfl
theorem tasQ_ct : tasQ nc exm ci fx QS .ct δ = QS .ct δ := rfl
end
/-- an exception passes a loop -/
theorem kL_ex {k : DS → Prop} {K : ES → Prop} {x : Xc} : kL k K (.ex x) δ = K (.ex x, δ) := rfl
end
section
variable {i : Int} {a : Bool} {z y : Str} {m n : Fl} {xs : List D}
theorem ty_i : tyOf (.int i) = some "int" := rfl
theorem ty_b : tyOf (.bl a) = some "bool" := rfl
theorem ty_s : tyOf (.str z) = some "str" := rfl
theorem ty_t : tyOf (.tup xs) = some "tuple" := rfl
theorem ty_l : tyOf (.lst m xs) = some "list" := rfl
theorem ty_n : tyOf (.non) = some "NoneType" := rfl
theorem is_ii : isT "int" "int" = true := by decide
theorem is_ib : isT "int" "bool" = false := by decide
theorem is_is : isT "int" "str" = false := by decide
theorem is_it : isT "int" "tuple" = false := by decide
theorem is_il : isT "int" "list" = false := by decide
theorem is_bi : isT "bool" "int" = true := by decide
theorem is_bb : isT "bool" "bool" = true := by decide
theorem is_bs : isT "bool" "str" = false := by decide
theorem is_bt : isT "bool" "tuple" = false := by decide
theorem is_bl : isT "bool" "list" = false := by decide
theorem is_si : isT "str" "int" = false := by decide
theorem is_sb : isT "str" "bool" = false := by decide
theorem is_ss : isT "str" "str" = true := by decide
theorem is_st : isT "str" "tuple" = false := by decide
theorem is_sl : isT "str" "list" = false := by decide
theorem is_ti : isT "tuple" "int" = false := by decide
theorem is_tb : isT "tuple" "bool" = false := by decide
theorem is_ts : isT "tuple" "str" = false := by decide
theorem is_tt : isT "tuple" "tuple" = true := by decide
theorem is_tl : isT "tuple" "list" = false := by decide
theorem is_li : isT "list" "int" = false := by decide
theorem is_lb : isT "list" "bool" = false := by decide
theorem is_ls : isT "list" "str" = false := by decide
theorem is_lt : isT "list" "tuple" = false := by decide
theorem is_ll : isT "list" "list" = true := by decide
theorem is_ni : isT "NoneType" "int" = false := by decide
theorem is_nb : isT "NoneType" "bool" = false := by decide
theorem is_ns : isT "NoneType" "str" = false := by decide
theorem is_nt : isT "NoneType" "tuple" = false := by decide
theorem is_nl : isT "NoneType" "list" = false := by decide
/-! texts -/
theorem eqD_s (a b : Str) : eqD (.str a) (.str b) = decide (a = b) := by
  unfold eqD toP
  rw [Bool.eq_iff_iff]
  simp [PyData.eqv]
theorem v_eqS : gEq [.str y, .str z] = some (.bl (decide (y = z))) := by
  show some (D.bl (eqD (.str y) (.str z))) = _
  rw [eqD_s]
theorem v_neS : gNe [.str y, .str z] = some (.bl (!decide (y = z))) := by
  show some (D.bl (!eqD (.str y) (.str z))) = _
  rw [eqD_s]
theorem v_addS (h : y.length + z.length ≤ 16777216) : gAdd [.str y, .str z] = some (.str (y ++ z)) := if_pos h
theorem v_lenS (h : z.length ≤ 16777216) : gLen [.str z] = some (.int z.length) := if_pos h
theorem v_strI (h : i.natAbs < 2 ^ 64) : gStrOf [.int i] = some (.str (toString i)) := by
  refine if_pos ?_
  by_cases h0 : i.natAbs = 0
  · rw [h0]; decide
  · have := (Nat.log2_lt h0).mpr h
    omega
theorem v_inS : gIn [.str y, .str z] = some (.bl (inStr y z)) := rfl
theorem v_notInS : gNotIn [.str y, .str z] = some (.bl (!inStr y z)) := rfl
theorem truD_i : truD (.int i) = some (i != 0) := rfl
theorem truD_n : truD .non = some false := rfl
theorem truD_t : truD (.tup xs) = some (!xs.isEmpty) := rfl
theorem cap_s : cap (.str z) = .str z := rfl
theorem cap_n : cap .non = .non := rfl
theorem cap_b : cap (.bl a) = .bl a := rfl
theorem noL_s : noL (.str z) = true := rfl
theorem its_t : itemsOf (.tup xs) = some xs := rfl
theorem own_t : owned (.tup xs) = false := rfl
theorem own_s : owned (.str z) = false := rfl
theorem its_s : itemsOf (.str z) = some (signs z) := rfl
theorem sv_n : (sv .non).isSome = true := rfl
theorem sv_i : (sv (.int i)).isSome = true := rfl
theorem sv_s : (sv (.str z)).isSome = true := rfl
theorem sv_b : (sv (.bl a)).isSome = true := rfl
theorem isStr_s : isStr (.str z) = true := rfl
theorem isNon_n : isNon .non = true := rfl
theorem isNon_i : isNon (.int i) = false := rfl
theorem isNon_s : isNon (.str z) = false := rfl
theorem isNon_t : isNon (.tup xs) = false := rfl
theorem isNon_l : isNon (.lst m xs) = false := rfl
theorem v_tup : gTuple [.lst m xs] = if shal m then some (.tup xs) else none := rfl
end
/-- a comprehension over any items that changes nothing -/
theorem has_cmpD {tg : D → DS → Option DS} {t : DS → Option EB} {f : DS → Option ER} {vs : List Nat} {δ : DS} (p : D → Bool) (h : D → D) {K : List D × DS → Prop} (xs : List D) (hl : xs.length ≤ 1000000)
    (hh : ∀ d ∈ xs, has (tg d δ) fun δ1 => GE t δ1 fun r δ2 => r = .ok (p d) ∧ if p d = true then (GE f δ2 fun r δ3 => r = .ok (h d) ∧ wipeD vs δ3 = δ) else wipeD vs δ2 = δ)
    (hK : K ((xs.filter p).map fun d => cap (h d), δ)) : has (evCmp tg t f vs xs [] δ) K := by
  rw [cmp_pure xs [] (by simpa using hl) hh, has_some, List.nil_append]
  exact hK
end PD
/-! P, part 34: freezing, told for the simplifier; defs that draw. -/
namespace PD
open PySem L2
section
variable {xs : List D} {i : Int} {a : Bool} {z : Str}
theorem noL_lo : noL (.lst .o xs) = true := rfl
theorem noL_lf : noL (.lst .f xs) = true := rfl
theorem frz_lo : frz (.lst .o xs) = .lst .f xs := rfl
theorem frz_lf : frz (.lst .f xs) = .lst .f xs := rfl
end
end PD
namespace K12
open PySem L2 PD PyProof.Rows
def exm (i j : Nat) : Bool := (([[true, false, false], [true, true, false], [true, false, true]] : List (List Bool)).getD i []).getD j false
def ev_is_number : DS → Option ES := evSeq (evIfS (evOrT (evTr truD (evIsi "bool" (evVar 0))) (evNotT (evTr truD (evIsi "int" (evVar 0))))) (evSeq (evRet (evCst (.bl false)))
  (evNx)) (evNx))
  (evSeq (evRet (evChain gLe gLe (evVar 1) (evVar 0) (evVar 2)))
  (evNx))
def F_is_number : FD := fnOf 3 3 false ev_is_number
def ev_checked_number : DS → Option ES := evSeq (evIfS (evNotT (evTr truD (evCall F_is_number [true, true, true] [] (evDefer 0 (evDefer 1 (evDefer 2 (evNil))))))) (evSeq (evRaise 1 (evCons false true (evOp gAdd (evCons false true (evOp gAdd (evCons false true (evOp gAdd (evCons false true (evCst (.str (Str.ofString "no number from "))) (evCons false true (evOp gStrOf (evDefer 1 (evNil))) evNil))) (evCons false true (evCst (.str (Str.ofString " to "))) evNil))) (evCons false true (evOp gStrOf (evDefer 2 (evNil))) evNil))) (evNil)))
  (evNx)) (evNx))
  (evSeq (evRet (evMv 0))
  (evNx))
def F_checked_number : FD := fnOf 3 3 false ev_checked_number
def bd_read_number_0 : DS → Option ES := evSeq (evIfS (evTr blD (evOp gNotIn (evDefer 3 (evCons false true (evCst (.str (Str.ofString "0123456789"))) evNil)))) (evSeq (evRaise 1 (evCons false true (evCst (.str (Str.ofString "no number"))) (evNil)))
  (evNx)) (evNx))
  (evNx)
def ev_read_number : DS → Option ES := evSeq (evIfS (evOrT (evNotT (evTr truD (evIsi "str" (evVar 0)))) (evNotT (evTr blD (evChain gLe gLe (evCst (.int 1)) (evOp gLen (evDefer 0 (evNil))) (evCst (.int 7)))))) (evSeq (evRaise 1 (evCons false true (evCst (.str (Str.ofString "no number"))) (evNil)))
  (evNx)) (evNx))
  (evSeq (evFor (evSrc (some 0) true (evVar 0)) (tgName 3) bd_read_number_0)
  (evSeq (evIfS (evAndT (evTr blD (evOp gGt (evCons false true (evOp gLen (evDefer 0 (evNil))) (evCons false true (evCst (.int 1)) evNil)))) (evTr blD (evOp gEq (evCons false true (evOp gItem (evDefer 0 (evCons false true (evCst (.int 0)) evNil))) (evCons false true (evCst (.str (Str.ofString "0"))) evNil))))) (evSeq (evRaise 1 (evCons false true (evCst (.str (Str.ofString "a nought ahead"))) (evNil)))
  (evNx)) (evNx))
  (evSeq (evRet (evCall F_checked_number [false, true, true] [] (evCons false true (evOp gIntOf (evDefer 0 (evNil))) (evDefer 1 (evDefer 2 (evNil))))))
  (evNx))))
def F_read_number : FD := fnOf 4 3 false ev_read_number
def bd_checked_spans_0 : DS → Option ES := evSeq (evIfS (evOrT (evNotT (evTr truD (evIsi "tuple" (evVar 3)))) (evTr blD (evOp gNe (evCons false true (evOp gLen (evDefer 3 (evNil))) (evCons false true (evCst (.int 2)) evNil))))) (evSeq (evRaise 2 (evCons false true (evCst (.str (Str.ofString "no span"))) (evNil)))
  (evNx)) (evNx))
  (evSeq (evAsgT (tgTup [4, 5]) (evVar 3))
  (evSeq (evIfS (evOrT (evNotT (evTr truD (evCall F_is_number [true, false, false] [] (evDefer 4 (evCons false true (evCst (.int 0)) (evCons false true (evCst (.int 20000)) (evNil))))))) (evOrT (evNotT (evTr truD (evCall F_is_number [true, false, false] [] (evDefer 5 (evCons false true (evCst (.int 0)) (evCons false true (evCst (.int 20000)) (evNil))))))) (evTr blD (evOp gLt (evDefer 5 (evCons true true (evVar 4) evNil)))))) (evSeq (evRaise 2 (evCons false true (evCst (.str (Str.ofString "no span"))) (evNil)))
  (evNx)) (evNx))
  (evSeq (evIfS (evAndT (evTr blD (evOp gIsNot (evDefer 1 (evCons false true (evCst .non) evNil)))) (evTr blD (evOp gLe (evDefer 4 (evCons false true (evOp gAdd (evDefer 1 (evCons false true (evCst (.int 1)) evNil))) evNil))))) (evSeq (evRaise 2 (evCons false true (evCst (.str (Str.ofString "out of order"))) (evNil)))
  (evNx)) (evNx))
  (evSeq (evAsg 1 (evFv 5))
  (evSeq (evApp 2 (evTup [true, true] (evDefer 4 (evDefer 5 (evNil)))))
  (evNx))))))
def ev_checked_spans : DS → Option ES := evSeq (evIfS (evTr blD (evOp gGt (evCons false true (evOp gLen (evDefer 0 (evNil))) (evCons false true (evCst (.int 60)) evNil)))) (evSeq (evRaise 2 (evCons false true (evCst (.str (Str.ofString "too many"))) (evNil)))
  (evNx)) (evNx))
  (evSeq (evAsg 1 (evCst .non))
  (evSeq (evAsg 2 (evLst [] (evNil)))
  (evSeq (evFor (evSrc (some 0) true (evVar 0)) (tgName 3) bd_checked_spans_0)
  (evSeq (evRet (evMv 2))
  (evNx)))))
def F_checked_spans : FD := fnOf 6 1 false ev_checked_spans
def ct_format_spans_0 : DS → Option EB := evYes
def ce_format_spans_1 : DS → Option ER := evOp gAdd (evCons false true (evOp gAdd (evCons false true (evOp gStrOf (evDefer 1 (evNil))) (evCons false true (evCst (.str (Str.ofString "-"))) evNil))) (evCons false true (evOp gStrOf (evDefer 2 (evNil))) evNil))
def ev_format_spans : DS → Option ES := evSeq (evIfS (evNotT (evTr truD (evVar 0))) (evSeq (evRet (evCst (.str (Str.ofString "-"))))
  (evNx)) (evNx))
  (evSeq (evRet (evOp gJoin (evCons false false (evGuard isStr (evCst (.str (Str.ofString ",")))) (evCons false true (evLc (evSrc (some 0) true (evVar 0)) (tgTup [1, 2]) ct_format_spans_0 ce_format_spans_1 [1, 2]) evNil))))
  (evNx))
def F_format_spans : FD := fnOf 3 1 false ev_format_spans
def bd_parse_spans_0 : DS → Option ES := evSeq (evAsg 3 (evOp gSplit (evCons true true (evGuard isStr (evVar 2)) (evCons false true (evCst (.str (Str.ofString "-"))) evNil))))
  (evSeq (evIfS (evTr blD (evOp gNe (evCons false true (evOp gLen (evDefer 3 (evNil))) (evCons false true (evCst (.int 2)) evNil)))) (evSeq (evRaise 2 (evCons false true (evCst (.str (Str.ofString "no span"))) (evNil)))
  (evNx)) (evNx))
  (evSeq (evApp 1 (evTup [false, false] (evCons false true (evCall F_read_number [false] [.int 0, .int 1000000] (evCons false true (evOp gItem (evDefer 3 (evCons false true (evCst (.int 0)) evNil))) (evNil))) (evCons false true (evCall F_read_number [false] [.int 0, .int 1000000] (evCons false true (evOp gItem (evDefer 3 (evCons false true (evCst (.int 1)) evNil))) (evNil))) (evNil)))))
  (evNx)))
def ev_parse_spans : DS → Option ES := evSeq (evIfS (evTr blD (evOp gEq (evDefer 0 (evCons false true (evCst (.str (Str.ofString "-"))) evNil)))) (evSeq (evRet (evLst [] (evNil)))
  (evNx)) (evNx))
  (evSeq (evAsg 1 (evLst [] (evNil)))
  (evSeq (evFor (evSrc none false (evOp gSplit (evCons true true (evGuard isStr (evVar 0)) (evCons false true (evCst (.str (Str.ofString ","))) evNil)))) (tgName 2) bd_parse_spans_0)
  (evSeq (evRet (evCall F_checked_spans [true] [] (evDefer 1 (evNil))))
  (evNx))))
def F_parse_spans : FD := fnOf 4 1 false ev_parse_spans
def ev__law_cell : DS → Option ES := evSeq (evIfS (evTr blD (evOp gLt (evDefer 1 (evCons false true (evOp gLen (evDefer 0 (evNil))) evNil)))) (evSeq (evRet (evOp gAbs (evCons false true (evOp gIntOf (evCons false true (evOp gItem (evDefer 0 (evCons true true (evVar 1) evNil))) (evNil))) (evNil))))
  (evNx)) (evNx))
  (evSeq (evRet (evOp gAdd (evCons false true (evOp gMul (evCons false true (evCst (.int 37)) (evCons true true (evVar 1) evNil))) (evCons false true (evCst (.int 11)) evNil))))
  (evNx))
def F__law_cell : FD := fnOf 2 2 false ev__law_cell
def ev__law_take : DS → Option ES := evSeq (evIfS (evTr blD (evOp gGt (evCons false true (evOp gItem (evDefer 0 (evCons false true (evCst (.int 2)) evNil))) (evCons false true (evCst (.int 0)) evNil)))) (evSeq (evAsg 3 (evOp gMod (evCons false true (evOp gIntOf (evCons false true (evOp gItem (evDefer 0 (evCons false true (evCst (.int 2)) evNil))) (evNil))) (evCons true true (evVar 1) evNil))))
  (evSeq (evSet 0 (evOp gDiv (evCons false true (evOp gIntOf (evCons false true (evOp gItem (evDefer 0 (evCons false true (evCst (.int 2)) evNil))) (evNil))) (evCons true true (evVar 1) evNil))) (evCst (.int 2)))
  (evSeq (evRet (evMv 3))
  (evNx)))) (evNx))
  (evSeq (evAsg 2 (evCall F__law_cell [false, false] [] (evCons false true (evOp gItem (evDefer 0 (evCons false true (evCst (.int 0)) evNil))) (evCons false true (evOp gItem (evDefer 0 (evCons false true (evCst (.int 1)) evNil))) (evNil)))))
  (evSeq (evSet 0 (evOp gAdd (evCons false true (evOp gItem (evDefer 0 (evCons false true (evCst (.int 1)) evNil))) (evCons false true (evCst (.int 1)) evNil))) (evCst (.int 1)))
  (evSeq (evIfS (evTr blD (evOp gGe (evDefer 2 (evCons false true (evOp gPow (evCons false true (evCst (.int 10)) (evCons false true (evCst (.int 9)) evNil))) evNil)))) (evSeq (evSet 0 (evOp gDiv (evCons false true (evOp gIntOf (evDefer 2 (evNil))) (evCons true true (evVar 1) evNil))) (evCst (.int 2)))
  (evNx)) (evNx))
  (evSeq (evRet (evOp gMod (evCons false true (evOp gIntOf (evDefer 2 (evNil))) (evCons true true (evVar 1) evNil))))
  (evNx)))))
def F__law_take : FD := fnOf 4 2 true ev__law_take
def bd__law_spans_0 : DS → Option ES := evSeq (evAsg 6 (evOp gAdd (evDefer 4 (evCons false true (evCallM F__law_take 0 [false] [] (evCons false true (evOp gAdd (evCons false true (evOp gDiv (evDefer 1 (evCons false true (evCst (.int 3)) evNil))) (evCons false true (evCst (.int 1)) evNil))) (evNil))) evNil))))
  (evSeq (evAsg 7 (evOp gAdd (evDefer 6 (evCons false true (evCallM F__law_take 0 [false] [] (evCons false true (evOp gAdd (evCons false true (evOp gDiv (evDefer 1 (evCons false true (evCst (.int 3)) evNil))) (evCons false true (evCst (.int 1)) evNil))) (evNil))) evNil))))
  (evSeq (evIfS (evTr blD (evOp gLe (evDefer 6 (evCons true true (evVar 1) evNil)))) (evSeq (evApp 3 (evTup [true, false] (evDefer 6 (evCons false true (evOp gMin2 (evDefer 7 (evDefer 1 (evNil)))) (evNil)))))
  (evNx)) (evNx))
  (evSeq (evAsg 4 (evOp gAdd (evDefer 7 (evCons false true (evCst (.int 2)) evNil))))
  (evNx))))
def ev__law_spans : DS → Option ES := evSeq (evAsg 3 (evLst [] (evNil)))
  (evSeq (evAsg 4 (evCst (.int 0)))
  (evSeq (evFor (evRng rng1Of (evCons false true (evCallM F__law_take 0 [false] [] (evCons false true (evOp gAdd (evDefer 2 (evCons false true (evCst (.int 1)) evNil))) (evNil))) (evNil))) (tgName 5) bd__law_spans_0)
  (evSeq (evRet (evMv 3))
  (evNx))))
def F__law_spans : FD := fnOf 8 3 true ev__law_spans
def ct__law_rows_0 : DS → Option EB := evYes
def ce__law_rows_1 : DS → Option ER := evTup [false, false] (evCons false true (evOp gMul (evCons false true (evCst (.int 3)) (evCons true true (evVar 7) evNil))) (evCons false true (evOp gAdd (evCons false true (evOp gMul (evCons false true (evCst (.int 3)) (evCons true true (evVar 7) evNil))) (evCons false true (evCst (.int 1)) evNil))) (evNil)))
def ev__law_rows : DS → Option ES := evSeq (evAsg 1 (evCallM F__law_spans 0 [false, false] [] (evCons false true (evOp gItem (evCons false false (evLst [false, false, false] (evCons false true (evCst (.int 20)) (evCons false true (evCst (.int 200)) (evCons false true (evCst (.int 19999)) (evNil))))) (evCons false true (evCallM F__law_take 0 [false] [] (evCons false true (evCst (.int 3)) (evNil))) evNil))) (evCons false true (evCst (.int 4)) (evNil)))))
  (evSeq (evIfS (evTr blD (evOp gEq (evCons false true (evCallM F__law_take 0 [false] [] (evCons false true (evCst (.int 12)) (evNil))) (evCons false true (evCst (.int 0)) evNil)))) (evSeq (evAsg 2 (evOp gAdd (evCons false false (evCst (.int 59)) (evCons false true (evCallM F__law_take 0 [false] [] (evCons false true (evCst (.int 3)) (evNil))) evNil))))
  (evSeq (evAsg 1 (evLc (evRng rng1Of (evDefer 2 (evNil))) (tgName 7) ct__law_rows_0 ce__law_rows_1 [7]))
  (evNx))) (evNx))
  (evSeq (evIfS (evAndT (evTr blD (evOp gNe (evDefer 1 (evCons false true (evLst [] (evNil)) evNil)))) (evTr blD (evOp gEq (evCons false true (evCallM F__law_take 0 [false] [] (evCons false true (evCst (.int 2)) (evNil))) (evCons false true (evCst (.int 0)) evNil))))) (evSeq (evAsg 3 (evCallM F__law_take 0 [false] [] (evCons false true (evOp gLen (evDefer 1 (evNil))) (evNil))))
  (evSeq (evAsgT (tgTup [5, 6]) (evOp gItem (evDefer 1 (evCons true true (evVar 3) evNil))))
  (evSeq (evAsg 4 (evLst [false, false, false, false, false, false, false, false, false] (evCons false true (evTup [true, true] (evDefer 6 (evDefer 5 (evNil)))) (evCons false true (evTup [true, false] (evDefer 5 (evCons false true (evOp gAdd (evDefer 6 (evCons false true (evCst (.int 1)) evNil))) (evNil)))) (evCons false true (evTup [true, false] (evDefer 5 (evCons false true (evCst (.int 20000)) (evNil)))) (evCons false true (evTup [true, false] (evDefer 5 (evCons false true (evCst (.int 20001)) (evNil)))) (evCons false true (evTup [false, true] (evCons false true (evOp gSub (evCons false true (evCst (.int 0)) (evCons false true (evCst (.int 1)) evNil))) (evDefer 6 (evNil)))) (evCons false true (evTup [true] (evDefer 5 (evNil))) (evCons false true (evLst [true, true] (evDefer 5 (evDefer 6 (evNil)))) (evCons false true (evTup [false, true] (evCons false true (evCst (.bl true)) (evDefer 6 (evNil)))) (evCons false true (evTup [true, true] (evDefer 5 (evDefer 5 (evNil)))) (evNil))))))))))))
  (evSeq (evSet 1 (evOp gItem (evDefer 4 (evCons false true (evCallM F__law_take 0 [false] [] (evCons false true (evCst (.int 9)) (evNil))) evNil))) (evVar 3))
  (evNx))))) (evNx))
  (evSeq (evRet (evMv 1))
  (evNx))))
def F__law_rows : FD := fnOf 8 1 true ev__law_rows
def ct__law_good_0 : DS → Option EB := evOrT (evTr truD (evIsi "bool" (evVar 3))) (evNotT (evTr truD (evIsi "int" (evVar 3))))
def ce__law_good_1 : DS → Option ER := evFv 3
def bd__law_good_2 : DS → Option ES := evSeq (evIfS (evOrT (evNotT (evTr truD (evIsi "tuple" (evVar 2)))) (evOrT (evTr blD (evOp gNe (evCons false true (evOp gLen (evDefer 2 (evNil))) (evCons false true (evCst (.int 2)) evNil)))) (evTr blD (evOp gGt (evCons false true (evOp gLen (evCons false true (evLc (evSrc (some 2) true (evVar 2)) (tgName 3) ct__law_good_0 ce__law_good_1 [3]) (evNil))) (evCons false true (evCst (.int 0)) evNil)))))) (evSeq (evRet (evCst (.bl false)))
  (evNx)) (evNx))
  (evSeq (evIfS (evOrT (evNotT (evTr blD (evChainN (evOp gAdd (evDefer 1 (evCons false true (evCst (.int 2)) evNil))) [(gLe, evOp gItem (evDefer 2 (evCons false true (evCst (.int 0)) evNil))), (gLe, evOp gItem (evDefer 2 (evCons false true (evCst (.int 1)) evNil))), (gLe, evCst (.int 20000))]))) (evTr blD (evOp gLt (evCons false true (evOp gItem (evDefer 2 (evCons false true (evCst (.int 0)) evNil))) (evCons false true (evCst (.int 0)) evNil))))) (evSeq (evRet (evCst (.bl false)))
  (evNx)) (evNx))
  (evSeq (evAsg 1 (evOp gItem (evDefer 2 (evCons false true (evCst (.int 1)) evNil))))
  (evNx)))
def ev__law_good : DS → Option ES := evSeq (evAsg 1 (evOp gSub (evCons false true (evCst (.int 0)) (evCons false true (evCst (.int 2)) evNil))))
  (evSeq (evFor (evSrc (some 0) true (evVar 0)) (tgName 2) bd__law_good_2)
  (evSeq (evRet (evOp gLe (evCons false true (evOp gLen (evDefer 0 (evNil))) (evCons false true (evCst (.int 60)) evNil))))
  (evNx)))
def F__law_good : FD := fnOf 4 1 false ev__law_good
def ev__law_checked : DS → Option ES := evSeq (evTryAs 3 exm 2 (xIf (xVal (xIs exm 0)) (xCst (.non)) (xCst (.str (Str.ofString "other")))) (evSeq (evRet (evCall F_checked_spans [true] [] (evDefer 0 (evNil))))
  (evNx)))
  (evNx)
def F__law_checked : FD := fnOf 2 1 false ev__law_checked
def bd__law_text_0 : DS → Option ES := evSeq (evAsg 3 (evCallM F__law_take 0 [false] [] (evCons false true (evCst (.int 30)) (evNil))))
  (evSeq (evAsg 4 (evOp gItem (evCons false false (evLst [false, false, false, false, false, false, false, false, false] (evCons false true (evOp gAdd (evCons false false (evOp gAdd (evCons false true (evOp gStrOf (evDefer 3 (evNil))) (evCons false true (evCst (.str (Str.ofString "-"))) evNil))) (evCons false true (evOp gStrOf (evCons false true (evOp gAdd (evDefer 3 (evCons false true (evCallM F__law_take 0 [false] [] (evCons false true (evCst (.int 9)) (evNil))) evNil))) (evNil))) evNil))) (evCons false true (evCst (.str (Str.ofString "5"))) (evCons false true (evCst (.str (Str.ofString "5-6-7"))) (evCons false true (evCst (.str (Str.ofString "-"))) (evCons false true (evCst (.str (Str.ofString "05-9"))) (evCons false true (evCst (.str (Str.ofString "9-5"))) (evCons false true (evCst (.str (Str.ofString "5-x"))) (evCons false true (evCst (.str (Str.ofString "7-20001"))) (evCons false true (evCst (.str (Str.ofString ""))) (evNil))))))))))) (evCons false true (evOp gItem (evCons false false (evLst [false, false, false, false, false, false, false, false, false, false, false, false, false] (evCons false true (evCst (.int 0)) (evCons false true (evCst (.int 0)) (evCons false true (evCst (.int 0)) (evCons false true (evCst (.int 0)) (evCons false true (evCst (.int 0)) (evCons false true (evCst (.int 1)) (evCons false true (evCst (.int 2)) (evCons false true (evCst (.int 3)) (evCons false true (evCst (.int 4)) (evCons false true (evCst (.int 5)) (evCons false true (evCst (.int 6)) (evCons false true (evCst (.int 7)) (evCons false true (evCst (.int 8)) (evNil))))))))))))))) (evCons false true (evCallM F__law_take 0 [false] [] (evCons false true (evCst (.int 13)) (evNil))) evNil))) evNil))))
  (evSeq (evAsg 1 (evIf (evTr blD (evOp gEq (evDefer 2 (evCons false true (evCst (.int 0)) evNil)))) (evFv 4) (evOp gAdd (evCons false true (evOp gAdd (evDefer 1 (evCons false true (evCst (.str (Str.ofString ","))) evNil))) (evCons true true (evVar 4) evNil)))))
  (evNx)))
def ev__law_text : DS → Option ES := evSeq (evAsg 1 (evCst (.str (Str.ofString ""))))
  (evSeq (evFor (evRng rng1Of (evCons false true (evOp gAdd (evCons false false (evCst (.int 1)) (evCons false true (evCallM F__law_take 0 [false] [] (evCons false true (evCst (.int 4)) (evNil))) evNil))) (evNil))) (tgName 2) bd__law_text_0)
  (evSeq (evRet (evMv 1))
  (evNx)))
def F__law_text : FD := fnOf 5 1 true ev__law_text
def ct__law_number_0 : DS → Option EB := evTr blD (evOp gNotIn (evDefer 1 (evCons false true (evCst (.str (Str.ofString "0123456789"))) evNil)))
def ce__law_number_1 : DS → Option ER := evFv 1
def ev__law_number : DS → Option ES := evSeq (evIfS (evOrT (evNotT (evTr blD (evChain gLe gLe (evCst (.int 1)) (evOp gLen (evDefer 0 (evNil))) (evCst (.int 7))))) (evOrT (evTr blD (evOp gGt (evCons false true (evOp gLen (evCons false true (evLc (evSrc (some 0) true (evVar 0)) (tgName 1) ct__law_number_0 ce__law_number_1 [1]) (evNil))) (evCons false true (evCst (.int 0)) evNil)))) (evAndT (evTr blD (evOp gGt (evCons false true (evOp gLen (evDefer 0 (evNil))) (evCons false true (evCst (.int 1)) evNil)))) (evTr blD (evOp gEq (evCons false true (evOp gItem (evDefer 0 (evCons false true (evCst (.int 0)) evNil))) (evCons false true (evCst (.str (Str.ofString "0"))) evNil))))))) (evSeq (evRet (evCst .non))
  (evNx)) (evNx))
  (evSeq (evRet (evIf (evTr blD (evOp gLe (evCons false true (evOp gIntOf (evDefer 0 (evNil))) (evCons false true (evCst (.int 1000000)) evNil)))) (evOp gIntOf (evDefer 0 (evNil))) (evCst .non)))
  (evNx))
def F__law_number : FD := fnOf 2 1 false ev__law_number
def bd__law_due_0 : DS → Option ES := evSeq (evAsg 3 (evOp gSplit (evCons true true (evGuard isStr (evVar 2)) (evCons false true (evCst (.str (Str.ofString "-"))) evNil))))
  (evSeq (evIfS (evTr blD (evOp gNe (evCons false true (evOp gLen (evDefer 3 (evNil))) (evCons false true (evCst (.int 2)) evNil)))) (evSeq (evRet (evCst (.str (Str.ofString "span"))))
  (evNx)) (evNx))
  (evSeq (evIfS (evOrT (evTr blD (evOp gIs (evCons false true (evCall F__law_number [false] [] (evCons false true (evOp gItem (evDefer 3 (evCons false true (evCst (.int 0)) evNil))) (evNil))) (evCons false true (evCst .non) evNil)))) (evTr blD (evOp gIs (evCons false true (evCall F__law_number [false] [] (evCons false true (evOp gItem (evDefer 3 (evCons false true (evCst (.int 1)) evNil))) (evNil))) (evCons false true (evCst .non) evNil))))) (evSeq (evRet (evCst (.str (Str.ofString "number"))))
  (evNx)) (evNx))
  (evSeq (evApp 1 (evTup [false, false] (evCons false true (evCall F__law_number [false] [] (evCons false true (evOp gItem (evDefer 3 (evCons false true (evCst (.int 0)) evNil))) (evNil))) (evCons false true (evCall F__law_number [false] [] (evCons false true (evOp gItem (evDefer 3 (evCons false true (evCst (.int 1)) evNil))) (evNil))) (evNil)))))
  (evNx))))
def ev__law_due : DS → Option ES := evSeq (evIfS (evTr blD (evOp gEq (evDefer 0 (evCons false true (evCst (.str (Str.ofString "-"))) evNil)))) (evSeq (evRet (evLst [] (evNil)))
  (evNx)) (evNx))
  (evSeq (evAsg 1 (evLst [] (evNil)))
  (evSeq (evFor (evSrc none false (evOp gSplit (evCons true true (evGuard isStr (evVar 0)) (evCons false true (evCst (.str (Str.ofString ","))) evNil)))) (tgName 2) bd__law_due_0)
  (evSeq (evRet (evIf (evTr truD (evCall F__law_good [true] [] (evDefer 1 (evNil)))) (evFv 1) (evCst (.str (Str.ofString "span")))))
  (evNx))))
def F__law_due : FD := fnOf 4 1 false ev__law_due
def ev__law_read : DS → Option ES := evSeq (evTry 3 exm [(2, evSeq (evRet (evCst (.str (Str.ofString "span"))))
  (evNx)), (1, evSeq (evRet (evCst (.str (Str.ofString "number"))))
  (evNx))] (evSeq (evRet (evCall F_parse_spans [true] [] (evDefer 0 (evNil))))
  (evNx)))
  (evNx)
def F__law_read : FD := fnOf 1 1 false ev__law_read
def ct_law_0 : DS → Option EB := evYes
def ce_law_1 : DS → Option ER := evOp gAdd (evCons false true (evOp gAdd (evCons false true (evOp gStrOf (evDefer 7 (evNil))) (evCons false true (evCst (.str (Str.ofString "-"))) evNil))) (evCons false true (evOp gStrOf (evDefer 8 (evNil))) evNil))
def bd_law_2 : DS → Option ES := evSeq (evAsg 3 (evCallM F__law_rows 1 [] [] (evNil)))
  (evSeq (evAsg 4 (evOp gList (evDefer 3 (evNil))))
  (evSeq (evIfS (evOrT (evTr blD (evOp gNe (evCons false false (evCall F__law_checked [true] [] (evDefer 4 (evNil))) (evCons false true (evIf (evTr truD (evCall F__law_good [true] [] (evDefer 3 (evNil)))) (evFv 3) (evCst .non)) evNil)))) (evTr blD (evOp gNe (evCons false false (evCall F__law_checked [false] [] (evCons false true (evOp gTuple (evDefer 3 (evNil))) (evNil))) (evCons false true (evIf (evTr truD (evCall F__law_good [true] [] (evDefer 3 (evNil)))) (evFv 3) (evCst .non)) evNil))))) (evSeq (evRet (evCst (.bl false)))
  (evNx)) (evNx))
  (evSeq (evIfS (evTr truD (evCall F__law_good [true] [] (evDefer 3 (evNil)))) (evSeq (evAsg 6 (evIf (evTr blD (evOp gNe (evDefer 3 (evCons false true (evLst [] (evNil)) evNil)))) (evOp gJoin (evCons false false (evGuard isStr (evCst (.str (Str.ofString ",")))) (evCons false true (evLc (evSrc (some 3) true (evVar 3)) (tgTup [7, 8]) ct_law_0 ce_law_1 [7, 8]) evNil))) (evCst (.str (Str.ofString "-")))))
  (evSeq (evIfS (evOrT (evTr blD (evOp gNe (evCons false true (evCall F_format_spans [true] [] (evDefer 3 (evNil))) (evCons true true (evVar 6) evNil)))) (evTr blD (evOp gNe (evCons false true (evCall F_parse_spans [true] [] (evDefer 6 (evNil))) (evCons true true (evVar 3) evNil))))) (evSeq (evRet (evCst (.bl false)))
  (evNx)) (evNx))
  (evSeq (evAppT (evCall F_checked_spans [true] [] (evDefer 4 (evNil))) (evCst (.int 5)))
  (evNx)))) (evNx))
  (evSeq (evAsg 5 (evCallM F__law_text 1 [] [] (evNil)))
  (evSeq (evIfS (evTr blD (evOp gNe (evCons false true (evCall F__law_read [true] [] (evDefer 5 (evNil))) (evCons false true (evCall F__law_due [true] [] (evDefer 5 (evNil))) evNil)))) (evSeq (evRet (evCst (.bl false)))
  (evNx)) (evNx))
  (evNx))))))
def ev_law : DS → Option ES := evSeq (evAsg 1 (evLst [true, false, false] (evDefer 0 (evCons false true (evCst (.int 0)) (evCons false true (evCst (.int 0)) (evNil))))))
  (evSeq (evFor (evRng rng1Of (evCons false true (evCst (.int 4)) (evNil))) (tgName 2) bd_law_2)
  (evSeq (evRet (evAndV (evOp gEq (evCons false true (evCall F__law_read [false] [] (evCons false true (evCst (.str (Str.ofString ""))) (evNil))) (evCons false true (evCst (.str (Str.ofString "span"))) evNil))) (evOpq false (evOp gEq (evCons false true (evCall F_format_spans [false] [] (evCons false true (evLst [] (evNil)) (evNil))) (evCons false true (evCst (.str (Str.ofString "-"))) evNil))))))
  (evNx)))
def F_law : FD := fnOf 9 1 false ev_law
end K12
namespace K12
open PySem L2 PD PyProof.Rows
def top (i : Nat) : Stmt := PySem.Challenge.pw_overbar_k12_checked_spans_and_their_text.main.body.getD i (.Pass ⟨0, 0, 0, 0⟩)
abbrev s_is_number : Stmt := top 7
def N_is_number : List Str := [Str.ofString "value", Str.ofString "least", Str.ofString "most"]
theorem nd_is_number : N_is_number.Nodup := by decide +kernel
theorem b_is_number {E : En} {G : GC} (hG : G.K = E.K) (m_bool : E.mg (Str.ofString "bool") = none) (m_int : E.mg (Str.ofString "int") = none) (m_isinstance : E.mg (Str.ofString "isinstance") = none) : JSs E G (fnPl N_is_number 0 (defScope s_is_number)) 3 [] (defBody s_is_number) ev_is_number :=
  ss_cons (s_if (j_w (j_wor (j_tval hG (j_isi hG rfl (by decide +kernel) m_isinstance (by decide +kernel) m_bool (by decide +kernel) (j_var (by decide +kernel)))) (j_wo1 (j_tnot (j_tval hG (j_isi hG rfl (by decide +kernel) m_isinstance (by decide +kernel) m_int (by decide +kernel) (j_var (by decide +kernel)))))))) (ss_cons (s_ret (j_bl))
  (ss_nil)) (ss_nil))
  (ss_cons (s_ret (j_chain hG ok_le ok_le (j_var (by decide +kernel)) (j_var (by decide +kernel)) (j_var (by decide +kernel))))
  (ss_nil))
theorem sc_is_number : FnScope N_is_number [Str.ofString "value", Str.ofString "least", Str.ofString "most"] (defScope s_is_number) := ⟨rfl, rfl, rfl, by decide +kernel, rfl, by decide +kernel, by decide +kernel⟩
abbrev s_checked_number : Stmt := top 8
def N_checked_number : List Str := [Str.ofString "value", Str.ofString "least", Str.ofString "most"]
theorem nd_checked_number : N_checked_number.Nodup := by decide +kernel
theorem b_checked_number {E : En} {G : GC} (hG : G.K = E.K) (m_str : E.mg (Str.ofString "str") = none) (x_InvalidNumber : ExF E G (Str.ofString "InvalidNumber") 1) (c_is_number : Fd E G (Str.ofString "is_number") 1 F_is_number []) : JSs E G (fnPl N_checked_number 1 (defScope s_checked_number)) 3 [] (defBody s_checked_number) ev_checked_number :=
  ss_cons (s_if (j_tnot (j_tval hG (j_own c_is_number (by decide) (by decide +kernel) (j_dfr (by decide +kernel) (j_dfr (by decide +kernel) (j_dfr (by decide +kernel) (j_nil))))))) (ss_cons (s_raise x_InvalidNumber (by decide +kernel) (j_cons (j_bin hG ok_add (.cc (j_bin hG ok_add (.cc (j_bin hG ok_add (.cc (j_str) (j_ty hG ok_str (by decide +kernel) m_str (by decide +kernel) (j_dfr (by decide +kernel) (j_nil))) (by decide) (by decide))) (j_str) (by decide) (by decide))) (j_ty hG ok_str (by decide +kernel) m_str (by decide +kernel) (j_dfr (by decide +kernel) (j_nil))) (by decide) (by decide))) (j_nil)))
  (ss_nil)) (ss_nil))
  (ss_cons (s_ret (j_mv (by decide +kernel)))
  (ss_nil))
theorem sc_checked_number : FnScope N_checked_number [Str.ofString "value", Str.ofString "least", Str.ofString "most"] (defScope s_checked_number) := ⟨rfl, rfl, rfl, by decide +kernel, rfl, by decide +kernel, by decide +kernel⟩
abbrev s_read_number : Stmt := top 9
def N_read_number : List Str := [Str.ofString "word", Str.ofString "least", Str.ofString "most", Str.ofString "sign"]
theorem nd_read_number : N_read_number.Nodup := by decide +kernel
theorem b_read_number {E : En} {G : GC} (hG : G.K = E.K) (m_int : E.mg (Str.ofString "int") = none) (m_isinstance : E.mg (Str.ofString "isinstance") = none) (m_len : E.mg (Str.ofString "len") = none) (m_str : E.mg (Str.ofString "str") = none) (g_FIGURES : ∃ u, E.mg (Str.ofString "FIGURES") = some u ∧ RelV (.str (Str.ofString "0123456789")) u) (x_InvalidNumber : ExF E G (Str.ofString "InvalidNumber") 1) (c_checked_number : Fd E G (Str.ofString "checked_number") 2 F_checked_number []) : JSs E G (fnPl N_read_number 2 (defScope s_read_number)) 4 [] (defBody s_read_number) ev_read_number :=
  ss_cons (s_if (j_w (j_wor (j_tnot (j_tval hG (j_isi hG rfl (by decide +kernel) m_isinstance (by decide +kernel) m_str (by decide +kernel) (j_var (by decide +kernel))))) (j_wo1 (j_tnot (j_tchain hG ok_le ok_le (j_int) (j_bi hG ok_len (by decide +kernel) m_len (by decide +kernel) (j_dfr (by decide +kernel) (j_nil))) (j_int)))))) (ss_cons (s_raise x_InvalidNumber (by decide +kernel) (j_cons (j_str) (j_nil)))
  (ss_nil)) (ss_nil))
  (ss_cons (s_for (pn' := [0]) (j_srcV hG (by decide +kernel)) rt_src (fun i h => by cases h; decide) (by decide) (j_tg (by decide +kernel) (by exact nd_read_number) (by decide) (by decide)) (ss_cons (s_if (j_tcmp hG ok_notIn (.dc (by decide +kernel) (j_glob (by decide +kernel) g_FIGURES.choose_spec.1 g_FIGURES.choose_spec.2 (fun _ _ => .str _)) (by decide))) (ss_cons (s_raise x_InvalidNumber (by decide +kernel) (j_cons (j_str) (j_nil)))
  (ss_nil)) (ss_nil))
  (ss_nil)))
  (ss_cons (s_if (j_w (j_wand (j_tcmp hG ok_gt (.cc (j_bi hG ok_len (by decide +kernel) m_len (by decide +kernel) (j_dfr (by decide +kernel) (j_nil))) (j_int) (by decide) (by decide))) (j_wa1 (j_tcmp hG ok_eq (.cc (j_ix hG ok_item (.dc (by decide +kernel) (j_int) (by decide))) (j_str) (by decide) (by decide)))))) (ss_cons (s_raise x_InvalidNumber (by decide +kernel) (j_cons (j_str) (j_nil)))
  (ss_nil)) (ss_nil))
  (ss_cons (s_ret (j_own c_checked_number (by decide) (by decide +kernel) (j_cons (j_ty hG ok_int (by decide +kernel) m_int (by decide +kernel) (j_dfr (by decide +kernel) (j_nil))) (j_dfr (by decide +kernel) (j_dfr (by decide +kernel) (j_nil))))))
  (ss_nil))))
theorem sc_read_number : FnScope N_read_number [Str.ofString "word", Str.ofString "least", Str.ofString "most"] (defScope s_read_number) := ⟨rfl, rfl, rfl, by decide +kernel, rfl, by decide +kernel, by decide +kernel⟩
abbrev s_checked_spans : Stmt := top 13
def N_checked_spans : List Str := [Str.ofString "spans", Str.ofString "last", Str.ofString "found", Str.ofString "span", Str.ofString "begin", Str.ofString "end"]
theorem nd_checked_spans : N_checked_spans.Nodup := by decide +kernel
theorem b_checked_spans {E : En} {G : GC} (hG : G.K = E.K) (m_isinstance : E.mg (Str.ofString "isinstance") = none) (m_len : E.mg (Str.ofString "len") = none) (m_tuple : E.mg (Str.ofString "tuple") = none) (g_FARTHEST : ∃ u, E.mg (Str.ofString "FARTHEST") = some u ∧ RelV (.int 20000) u) (g_MOST : ∃ u, E.mg (Str.ofString "MOST") = some u ∧ RelV (.int 60) u) (x_InvalidSpan : ExF E G (Str.ofString "InvalidSpan") 2) (c_is_number : Fd E G (Str.ofString "is_number") 1 F_is_number []) : JSs E G (fnPl N_checked_spans 1 (defScope s_checked_spans)) 6 [] (defBody s_checked_spans) ev_checked_spans :=
  ss_cons (s_if (j_tcmp hG ok_gt (.cc (j_bi hG ok_len (by decide +kernel) m_len (by decide +kernel) (j_dfr (by decide +kernel) (j_nil))) (j_glob (by decide +kernel) g_MOST.choose_spec.1 g_MOST.choose_spec.2 (fun _ _ => .int _)) (by decide) (by decide))) (ss_cons (s_raise x_InvalidSpan (by decide +kernel) (j_cons (j_str) (j_nil)))
  (ss_nil)) (ss_nil))
  (ss_cons (s_asg (by decide +kernel) (by exact nd_checked_spans) (by decide) (by decide) (j_non))
  (ss_cons (s_asg (by decide +kernel) (by exact nd_checked_spans) (by decide) (by decide) (j_lst (j_nil)))
  (ss_cons (s_for (pn' := [0]) (j_srcV hG (by decide +kernel)) rt_src (fun i h => by cases h; decide) (by decide) (j_tg (by decide +kernel) (by exact nd_checked_spans) (by decide) (by decide)) (ss_cons (s_if (j_w (j_wor (j_tnot (j_tval hG (j_isi hG rfl (by decide +kernel) m_isinstance (by decide +kernel) m_tuple (by decide +kernel) (j_var (by decide +kernel))))) (j_wo1 (j_tcmp hG ok_ne (.cc (j_bi hG ok_len (by decide +kernel) m_len (by decide +kernel) (j_dfr (by decide +kernel) (j_nil))) (j_int) (by decide) (by decide)))))) (ss_cons (s_raise x_InvalidSpan (by decide +kernel) (j_cons (j_str) (j_nil)))
  (ss_nil)) (ss_nil))
  (ss_cons (s_asgT (j_tgt hG (j_ns (by decide +kernel) (by exact nd_checked_spans) (by decide) (by decide) (j_ns (by decide +kernel) (by exact nd_checked_spans) (by decide) (by decide) (j_ns0)))) (j_var (by decide +kernel)))
  (ss_cons (s_if (j_w (j_wor (j_tnot (j_tval hG (j_own c_is_number (by decide) (by decide +kernel) (j_dfr (by decide +kernel) (j_cons (j_int) (j_cons (j_glob (by decide +kernel) g_FARTHEST.choose_spec.1 g_FARTHEST.choose_spec.2 (fun _ _ => .int _)) (j_nil))))))) (j_wor (j_tnot (j_tval hG (j_own c_is_number (by decide) (by decide +kernel) (j_dfr (by decide +kernel) (j_cons (j_int) (j_cons (j_glob (by decide +kernel) g_FARTHEST.choose_spec.1 g_FARTHEST.choose_spec.2 (fun _ _ => .int _)) (j_nil))))))) (j_wo1 (j_tcmp hG ok_lt (.dc (by decide +kernel) (j_var (by decide +kernel)) (by decide))))))) (ss_cons (s_raise x_InvalidSpan (by decide +kernel) (j_cons (j_str) (j_nil)))
  (ss_nil)) (ss_nil))
  (ss_cons (s_if (j_w (j_wand (j_tcmp hG ok_isNot (.dc (by decide +kernel) (j_non) (by decide))) (j_wa1 (j_tcmp hG ok_le (.dc (by decide +kernel) (j_bin hG ok_add (.dc (by decide +kernel) (j_int) (by decide))) (by decide)))))) (ss_cons (s_raise x_InvalidSpan (by decide +kernel) (j_cons (j_str) (j_nil)))
  (ss_nil)) (ss_nil))
  (ss_cons (s_asg (by decide +kernel) (by exact nd_checked_spans) (by decide) (by decide) (j_fv (by decide +kernel)))
  (ss_cons (s_app hG (by decide +kernel) (j_tup (j_dfr (by decide +kernel) (j_dfr (by decide +kernel) (j_nil)))))
  (ss_nil))))))))
  (ss_cons (s_ret (j_mv (by decide +kernel)))
  (ss_nil)))))
theorem sc_checked_spans : FnScope N_checked_spans [Str.ofString "spans"] (defScope s_checked_spans) := ⟨rfl, rfl, rfl, by decide +kernel, rfl, by decide +kernel, by decide +kernel⟩
abbrev s_format_spans : Stmt := top 14
def N_format_spans : List Str := [Str.ofString "spans", Str.ofString "begin", Str.ofString "end"]
theorem nd_format_spans : N_format_spans.Nodup := by decide +kernel
theorem b_format_spans {E : En} {G : GC} (hG : G.K = E.K) (m_str : E.mg (Str.ofString "str") = none) : JSs E G (fnPl N_format_spans 0 (defScope s_format_spans)) 3 [] (defBody s_format_spans) ev_format_spans :=
  ss_cons (s_if (j_tnot (j_tval hG (j_var (by decide +kernel)))) (ss_cons (s_ret (j_str))
  (ss_nil)) (ss_nil))
  (ss_cons (s_ret (j_sm1 hG PySem.F.slot_str_join PySem.F.type_str_join ok_join (j_str) (JLc.pe (j_lcK (own := [(Str.ofString "begin", 1), (Str.ofString "end", 2)]) (by exact nd_format_spans) (by decide +kernel) (j_srcV hG (by decide +kernel)) rt_src (fun i h => by cases h; decide) (j_tgt hG (j_ns (by decide +kernel) (by exact nd_format_spans) (by decide) (by decide) (j_ns (by decide +kernel) (by exact nd_format_spans) (by decide) (by decide) (j_ns0)))) (j_yes) (j_bin hG ok_add (.cc (j_bin hG ok_add (.cc (j_ty hG ok_str (by decide +kernel) m_str (by decide +kernel) (j_dfr (by decide +kernel) (j_nil))) (j_str) (by decide) (by decide))) (j_ty hG ok_str (by decide +kernel) m_str (by decide +kernel) (j_dfr (by decide +kernel) (j_nil))) (by decide) (by decide)))))))
  (ss_nil))
theorem sc_format_spans : FnScope N_format_spans [Str.ofString "spans"] (defScope s_format_spans) := ⟨rfl, rfl, rfl, by decide +kernel, rfl, by decide +kernel, by decide +kernel⟩
abbrev s_parse_spans : Stmt := top 15
def N_parse_spans : List Str := [Str.ofString "word", Str.ofString "found", Str.ofString "part", Str.ofString "ends"]
theorem nd_parse_spans : N_parse_spans.Nodup := by decide +kernel
theorem b_parse_spans {E : En} {G : GC} (hG : G.K = E.K) (m_len : E.mg (Str.ofString "len") = none) (x_InvalidSpan : ExF E G (Str.ofString "InvalidSpan") 2) (c_checked_spans : Fd E G (Str.ofString "checked_spans") 2 F_checked_spans []) (c_read_number_2 : Fd E G (Str.ofString "read_number") 3 F_read_number [.int 0, .int 1000000]) : JSs E G (fnPl N_parse_spans 3 (defScope s_parse_spans)) 4 [] (defBody s_parse_spans) ev_parse_spans :=
  ss_cons (s_if (j_tcmp hG ok_eq (.dc (by decide +kernel) (j_str) (by decide))) (ss_cons (s_ret (j_lst (j_nil)))
  (ss_nil)) (ss_nil))
  (ss_cons (s_asg (by decide +kernel) (by exact nd_parse_spans) (by decide) (by decide) (j_lst (j_nil)))
  (ss_cons (s_for (pn' := []) (j_src hG (j_sm1 hG PySem.F.slot_str_split PySem.F.type_str_split ok_split (j_var (by decide +kernel)) (j_str))) rt_src (fun _ h => nomatch h) (by decide) (j_tg (by decide +kernel) (by exact nd_parse_spans) (by decide) (by decide)) (ss_cons (s_asg (by decide +kernel) (by exact nd_parse_spans) (by decide) (by decide) (j_sm1 hG PySem.F.slot_str_split PySem.F.type_str_split ok_split (j_var (by decide +kernel)) (j_str)))
  (ss_cons (s_if (j_tcmp hG ok_ne (.cc (j_bi hG ok_len (by decide +kernel) m_len (by decide +kernel) (j_dfr (by decide +kernel) (j_nil))) (j_int) (by decide) (by decide))) (ss_cons (s_raise x_InvalidSpan (by decide +kernel) (j_cons (j_str) (j_nil)))
  (ss_nil)) (ss_nil))
  (ss_cons (s_app hG (by decide +kernel) (j_tup (j_cons (j_own c_read_number_2 (by decide) (by decide +kernel) (j_cons (j_ix hG ok_item (.dc (by decide +kernel) (j_int) (by decide))) (j_nil))) (j_cons (j_own c_read_number_2 (by decide) (by decide +kernel) (j_cons (j_ix hG ok_item (.dc (by decide +kernel) (j_int) (by decide))) (j_nil))) (j_nil)))))
  (ss_nil)))))
  (ss_cons (s_ret (j_own c_checked_spans (by decide) (by decide +kernel) (j_dfr (by decide +kernel) (j_nil))))
  (ss_nil))))
theorem sc_parse_spans : FnScope N_parse_spans [Str.ofString "word"] (defScope s_parse_spans) := ⟨rfl, rfl, rfl, by decide +kernel, rfl, by decide +kernel, by decide +kernel⟩
abbrev s__law_cell : Stmt := top 17
def N__law_cell : List Str := [Str.ofString "script", Str.ofString "k"]
theorem nd__law_cell : N__law_cell.Nodup := by decide +kernel
theorem b__law_cell {E : En} {G : GC} (hG : G.K = E.K) (m_abs : E.mg (Str.ofString "abs") = none) (m_int : E.mg (Str.ofString "int") = none) (m_len : E.mg (Str.ofString "len") = none) : JSs E G (fnPl N__law_cell 0 (defScope s__law_cell)) 2 [] (defBody s__law_cell) ev__law_cell :=
  ss_cons (s_if (j_tcmp hG ok_lt (.dc (by decide +kernel) (j_bi hG ok_len (by decide +kernel) m_len (by decide +kernel) (j_dfr (by decide +kernel) (j_nil))) (by decide))) (ss_cons (s_ret (j_bi hG ok_abs (by decide +kernel) m_abs (by decide +kernel) (j_cons (j_ty hG ok_int (by decide +kernel) m_int (by decide +kernel) (j_cons (j_ix hG ok_item (.dc (by decide +kernel) (j_var (by decide +kernel)) (by decide))) (j_nil))) (j_nil))))
  (ss_nil)) (ss_nil))
  (ss_cons (s_ret (j_bin hG ok_add (.cc (j_bin hG ok_mul (.cc (j_int) (j_var (by decide +kernel)) (by decide) (by decide))) (j_int) (by decide) (by decide))))
  (ss_nil))
theorem sc__law_cell : FnScope N__law_cell [Str.ofString "script", Str.ofString "k"] (defScope s__law_cell) := ⟨rfl, rfl, rfl, by decide +kernel, rfl, by decide +kernel, by decide +kernel⟩
abbrev s__law_take : Stmt := top 18
def N__law_take : List Str := [Str.ofString "state", Str.ofString "limit", Str.ofString "cell", Str.ofString "found"]
theorem nd__law_take : N__law_take.Nodup := by decide +kernel
theorem b__law_take {E : En} {G : GC} (hG : G.K = E.K) (m_int : E.mg (Str.ofString "int") = none) (c__law_cell : Fd E G (Str.ofString "_law_cell") 1 F__law_cell []) : JSs E G (fnPl N__law_take 1 (defScope s__law_take)) 4 [0] (defBody s__law_take) ev__law_take :=
  ss_cons (s_if (j_tcmp hG ok_gt (.cc (j_ix hG ok_item (.dc (by decide +kernel) (j_int) (by decide))) (j_int) (by decide) (by decide))) (ss_cons (s_asg (by decide +kernel) (by exact nd__law_take) (by decide) (by decide) (j_bin hG ok_mod (.cc (j_ty hG ok_int (by decide +kernel) m_int (by decide +kernel) (j_cons (j_ix hG ok_item (.dc (by decide +kernel) (j_int) (by decide))) (j_nil))) (j_var (by decide +kernel)) (by decide) (by decide))))
  (ss_cons (s_set hG (by decide +kernel) (j_bin hG ok_div (.cc (j_ty hG ok_int (by decide +kernel) m_int (by decide +kernel) (j_cons (j_ix hG ok_item (.dc (by decide +kernel) (j_int) (by decide))) (j_nil))) (j_var (by decide +kernel)) (by decide) (by decide))) (j_int))
  (ss_cons (s_ret (j_mv (by decide +kernel)))
  (ss_nil)))) (ss_nil))
  (ss_cons (s_asg (by decide +kernel) (by exact nd__law_take) (by decide) (by decide) (j_own c__law_cell (by decide) (by decide +kernel) (j_cons (j_ix hG ok_item (.dc (by decide +kernel) (j_int) (by decide))) (j_cons (j_ix hG ok_item (.dc (by decide +kernel) (j_int) (by decide))) (j_nil)))))
  (ss_cons (s_set hG (by decide +kernel) (j_bin hG ok_add (.cc (j_ix hG ok_item (.dc (by decide +kernel) (j_int) (by decide))) (j_int) (by decide) (by decide))) (j_int))
  (ss_cons (s_if (j_tcmp hG ok_ge (.dc (by decide +kernel) (j_bin hG ok_pow (.cc (j_int) (j_int) (by decide) (by decide))) (by decide))) (ss_cons (s_set hG (by decide +kernel) (j_bin hG ok_div (.cc (j_ty hG ok_int (by decide +kernel) m_int (by decide +kernel) (j_dfr (by decide +kernel) (j_nil))) (j_var (by decide +kernel)) (by decide) (by decide))) (j_int))
  (ss_nil)) (ss_nil))
  (ss_cons (s_ret (j_bin hG ok_mod (.cc (j_ty hG ok_int (by decide +kernel) m_int (by decide +kernel) (j_dfr (by decide +kernel) (j_nil))) (j_var (by decide +kernel)) (by decide) (by decide))))
  (ss_nil)))))
theorem sc__law_take : FnScope N__law_take [Str.ofString "state", Str.ofString "limit"] (defScope s__law_take) := ⟨rfl, rfl, rfl, by decide +kernel, rfl, by decide +kernel, by decide +kernel⟩
abbrev s__law_spans : Stmt := top 19
def N__law_spans : List Str := [Str.ofString "state", Str.ofString "horizon", Str.ofString "most", Str.ofString "found", Str.ofString "first", Str.ofString "k", Str.ofString "begin", Str.ofString "end"]
theorem nd__law_spans : N__law_spans.Nodup := by decide +kernel
theorem b__law_spans {E : En} {G : GC} (hG : G.K = E.K) (m_min : E.mg (Str.ofString "min") = none) (m_range : E.mg (Str.ofString "range") = none) (c__law_take : Fd E G (Str.ofString "_law_take") 2 F__law_take []) : JSs E G (fnPl N__law_spans 2 (defScope s__law_spans)) 8 [0] (defBody s__law_spans) ev__law_spans :=
  ss_cons (s_asg (by decide +kernel) (by exact nd__law_spans) (by decide) (by decide) (j_lst (j_nil)))
  (ss_cons (s_asg (by decide +kernel) (by exact nd__law_spans) (by decide) (by decide) (j_int))
  (ss_cons (s_for (pn' := [0]) (j_rng1 (by decide +kernel) m_range (j_cons (j_ownM c__law_take (by decide) (by decide +kernel) (by decide +kernel) (j_cons (j_bin hG ok_add (.dc (by decide +kernel) (j_int) (by decide))) (j_nil))) (j_nil))) rt_rng (fun _ h => nomatch h) (by decide) (j_tg (by decide +kernel) (by exact nd__law_spans) (by decide) (by decide)) (ss_cons (s_asg (by decide +kernel) (by exact nd__law_spans) (by decide) (by decide) (j_bin hG ok_add (.dc (by decide +kernel) (j_ownM c__law_take (by decide) (by decide +kernel) (by decide +kernel) (j_cons (j_bin hG ok_add (.cc (j_bin hG ok_div (.dc (by decide +kernel) (j_int) (by decide))) (j_int) (by decide) (by decide))) (j_nil))) (by decide))))
  (ss_cons (s_asg (by decide +kernel) (by exact nd__law_spans) (by decide) (by decide) (j_bin hG ok_add (.dc (by decide +kernel) (j_ownM c__law_take (by decide) (by decide +kernel) (by decide +kernel) (j_cons (j_bin hG ok_add (.cc (j_bin hG ok_div (.dc (by decide +kernel) (j_int) (by decide))) (j_int) (by decide) (by decide))) (j_nil))) (by decide))))
  (ss_cons (s_if (j_tcmp hG ok_le (.dc (by decide +kernel) (j_var (by decide +kernel)) (by decide))) (ss_cons (s_app hG (by decide +kernel) (j_tup (j_dfr (by decide +kernel) (j_cons (j_biC hG ok_min2 (by decide +kernel) m_min (by decide +kernel) (j_dfr (by decide +kernel) (j_dfr (by decide +kernel) (j_nil)))) (j_nil)))))
  (ss_nil)) (ss_nil))
  (ss_cons (s_asg (by decide +kernel) (by exact nd__law_spans) (by decide) (by decide) (j_bin hG ok_add (.dc (by decide +kernel) (j_int) (by decide))))
  (ss_nil))))))
  (ss_cons (s_ret (j_mv (by decide +kernel)))
  (ss_nil))))
theorem sc__law_spans : FnScope N__law_spans [Str.ofString "state", Str.ofString "horizon", Str.ofString "most"] (defScope s__law_spans) := ⟨rfl, rfl, rfl, by decide +kernel, rfl, by decide +kernel, by decide +kernel⟩
abbrev s__law_rows : Stmt := top 20
def N__law_rows : List Str := [Str.ofString "state", Str.ofString "rows", Str.ofString "many", Str.ofString "at", Str.ofString "bad", Str.ofString "begin", Str.ofString "end", Str.ofString "k"]
theorem nd__law_rows : N__law_rows.Nodup := by decide +kernel
theorem b__law_rows {E : En} {G : GC} (hG : G.K = E.K) (m_len : E.mg (Str.ofString "len") = none) (m_range : E.mg (Str.ofString "range") = none) (c__law_spans : Fd E G (Str.ofString "_law_spans") 3 F__law_spans []) (c__law_take : Fd E G (Str.ofString "_law_take") 2 F__law_take []) : JSs E G (fnPl N__law_rows 3 (defScope s__law_rows)) 8 [0] (defBody s__law_rows) ev__law_rows :=
  ss_cons (s_asg (by decide +kernel) (by exact nd__law_rows) (by decide) (by decide) (j_ownM c__law_spans (by decide) (by decide +kernel) (by decide +kernel) (j_cons (j_ix hG ok_item (.cc (j_lst (j_cons (j_int) (j_cons (j_int) (j_cons (j_int) (j_nil))))) (j_ownM c__law_take (by decide) (by decide +kernel) (by decide +kernel) (j_cons (j_int) (j_nil))) (by decide) (by decide))) (j_cons (j_int) (j_nil)))))
  (ss_cons (s_if (j_tcmp hG ok_eq (.cc (j_ownM c__law_take (by decide) (by decide +kernel) (by decide +kernel) (j_cons (j_int) (j_nil))) (j_int) (by decide) (by decide))) (ss_cons (s_asg (by decide +kernel) (by exact nd__law_rows) (by decide) (by decide) (j_bin hG ok_add (.cc (j_int) (j_ownM c__law_take (by decide) (by decide +kernel) (by decide +kernel) (j_cons (j_int) (j_nil))) (by decide) (by decide))))
  (ss_cons (s_asgLc (by decide +kernel) (by decide +kernel) (by decide +kernel) (by decide) (by decide) (j_lcK (own := [(Str.ofString "k", 7)]) (by exact nd__law_rows) (by decide +kernel) (j_rng1 (by decide +kernel) m_range (j_dfr (by decide +kernel) (j_nil))) rt_rng (fun _ h => nomatch h) (j_tg (by decide +kernel) (by exact nd__law_rows) (by decide) (by decide)) (j_yes) (j_tup (j_cons (j_bin hG ok_mul (.cc (j_int) (j_var (by decide +kernel)) (by decide) (by decide))) (j_cons (j_bin hG ok_add (.cc (j_bin hG ok_mul (.cc (j_int) (j_var (by decide +kernel)) (by decide) (by decide))) (j_int) (by decide) (by decide))) (j_nil))))) (by rfl) (by decide +kernel))
  (ss_nil))) (ss_nil))
  (ss_cons (s_if (j_w (j_wand (j_tcmp hG ok_ne (.dc (by decide +kernel) (j_lst (j_nil)) (by decide))) (j_wa1 (j_tcmp hG ok_eq (.cc (j_ownM c__law_take (by decide) (by decide +kernel) (by decide +kernel) (j_cons (j_int) (j_nil))) (j_int) (by decide) (by decide)))))) (ss_cons (s_asg (by decide +kernel) (by exact nd__law_rows) (by decide) (by decide) (j_ownM c__law_take (by decide) (by decide +kernel) (by decide +kernel) (j_cons (j_bi hG ok_len (by decide +kernel) m_len (by decide +kernel) (j_dfr (by decide +kernel) (j_nil))) (j_nil))))
  (ss_cons (s_asgT (j_tgt hG (j_ns (by decide +kernel) (by exact nd__law_rows) (by decide) (by decide) (j_ns (by decide +kernel) (by exact nd__law_rows) (by decide) (by decide) (j_ns0)))) (j_ix hG ok_item (.dc (by decide +kernel) (j_var (by decide +kernel)) (by decide))))
  (ss_cons (s_asg (by decide +kernel) (by exact nd__law_rows) (by decide) (by decide) (j_lst (j_cons (j_tup (j_dfr (by decide +kernel) (j_dfr (by decide +kernel) (j_nil)))) (j_cons (j_tup (j_dfr (by decide +kernel) (j_cons (j_bin hG ok_add (.dc (by decide +kernel) (j_int) (by decide))) (j_nil)))) (j_cons (j_tup (j_dfr (by decide +kernel) (j_cons (j_int) (j_nil)))) (j_cons (j_tup (j_dfr (by decide +kernel) (j_cons (j_int) (j_nil)))) (j_cons (j_tup (j_cons (j_bin hG ok_sub (.cc (j_int) (j_int) (by decide) (by decide))) (j_dfr (by decide +kernel) (j_nil)))) (j_cons (j_tup (j_dfr (by decide +kernel) (j_nil))) (j_cons (j_lst (j_dfr (by decide +kernel) (j_dfr (by decide +kernel) (j_nil)))) (j_cons (j_tup (j_cons (j_bl) (j_dfr (by decide +kernel) (j_nil)))) (j_cons (j_tup (j_dfr (by decide +kernel) (j_dfr (by decide +kernel) (j_nil)))) (j_nil))))))))))))
  (ss_cons (s_set hG (by decide +kernel) (j_ix hG ok_item (.dc (by decide +kernel) (j_ownM c__law_take (by decide) (by decide +kernel) (by decide +kernel) (j_cons (j_int) (j_nil))) (by decide))) (j_var (by decide +kernel)))
  (ss_nil))))) (ss_nil))
  (ss_cons (s_ret (j_mv (by decide +kernel)))
  (ss_nil))))
theorem sc__law_rows : FnScope N__law_rows [Str.ofString "state"] (defScope s__law_rows) := ⟨rfl, rfl, rfl, by decide +kernel, rfl, by decide +kernel, by decide +kernel⟩
abbrev s__law_good : Stmt := top 21
def N__law_good : List Str := [Str.ofString "rows", Str.ofString "last", Str.ofString "row", Str.ofString "x"]
theorem nd__law_good : N__law_good.Nodup := by decide +kernel
theorem b__law_good {E : En} {G : GC} (hG : G.K = E.K) (m_bool : E.mg (Str.ofString "bool") = none) (m_int : E.mg (Str.ofString "int") = none) (m_isinstance : E.mg (Str.ofString "isinstance") = none) (m_len : E.mg (Str.ofString "len") = none) (m_tuple : E.mg (Str.ofString "tuple") = none) : JSs E G (fnPl N__law_good 0 (defScope s__law_good)) 4 [] (defBody s__law_good) ev__law_good :=
  ss_cons (s_asg (by decide +kernel) (by exact nd__law_good) (by decide) (by decide) (j_bin hG ok_sub (.cc (j_int) (j_int) (by decide) (by decide))))
  (ss_cons (s_for (pn' := [0]) (j_srcV hG (by decide +kernel)) rt_src (fun i h => by cases h; decide) (by decide) (j_tg (by decide +kernel) (by exact nd__law_good) (by decide) (by decide)) (ss_cons (s_if (j_w (j_wor (j_tnot (j_tval hG (j_isi hG rfl (by decide +kernel) m_isinstance (by decide +kernel) m_tuple (by decide +kernel) (j_var (by decide +kernel))))) (j_wor (j_tcmp hG ok_ne (.cc (j_bi hG ok_len (by decide +kernel) m_len (by decide +kernel) (j_dfr (by decide +kernel) (j_nil))) (j_int) (by decide) (by decide))) (j_wo1 (j_tcmp hG ok_gt (.cc (j_bi hG ok_len (by decide +kernel) m_len (by decide +kernel) (j_cons (JLc.pe (j_lcK (own := [(Str.ofString "x", 3)]) (by exact nd__law_good) (by decide +kernel) (j_srcV hG (by decide +kernel)) rt_src (fun i h => by cases h; decide) (j_tg (by decide +kernel) (by exact nd__law_good) (by decide) (by decide)) (j_tst (j_w (j_wor (j_tval hG (j_isi hG rfl (by decide +kernel) m_isinstance (by decide +kernel) m_bool (by decide +kernel) (j_var (by decide +kernel)))) (j_wo1 (j_tnot (j_tval hG (j_isi hG rfl (by decide +kernel) m_isinstance (by decide +kernel) m_int (by decide +kernel) (j_var (by decide +kernel))))))))) (j_fv (by decide +kernel)))) (j_nil))) (j_int) (by decide) (by decide))))))) (ss_cons (s_ret (j_bl))
  (ss_nil)) (ss_nil))
  (ss_cons (s_if (j_w (j_wor (j_tnot (j_tchainN hG (j_bin hG ok_add (.dc (by decide +kernel) (j_int) (by decide))) (.cons ok_le (j_ix hG ok_item (.dc (by decide +kernel) (j_int) (by decide))) (.cons ok_le (j_ix hG ok_item (.dc (by decide +kernel) (j_int) (by decide))) (.one ok_le (j_int)))))) (j_wo1 (j_tcmp hG ok_lt (.cc (j_ix hG ok_item (.dc (by decide +kernel) (j_int) (by decide))) (j_int) (by decide) (by decide)))))) (ss_cons (s_ret (j_bl))
  (ss_nil)) (ss_nil))
  (ss_cons (s_asg (by decide +kernel) (by exact nd__law_good) (by decide) (by decide) (j_ix hG ok_item (.dc (by decide +kernel) (j_int) (by decide))))
  (ss_nil)))))
  (ss_cons (s_ret (j_cmp hG ok_le (.cc (j_bi hG ok_len (by decide +kernel) m_len (by decide +kernel) (j_dfr (by decide +kernel) (j_nil))) (j_int) (by decide) (by decide))))
  (ss_nil)))
theorem sc__law_good : FnScope N__law_good [Str.ofString "rows"] (defScope s__law_good) := ⟨rfl, rfl, rfl, by decide +kernel, rfl, by decide +kernel, by decide +kernel⟩
abbrev s__law_checked : Stmt := top 22
def N__law_checked : List Str := [Str.ofString "rows", Str.ofString "e"]
theorem nd__law_checked : N__law_checked.Nodup := by decide +kernel
theorem b__law_checked {E : En} {G : GC} (hG : G.K = E.K) (m_isinstance : E.mg (Str.ofString "isinstance") = none) (x_BarError : ExF E G (Str.ofString "BarError") 0) (x_InvalidSpan : ExF E G (Str.ofString "InvalidSpan") 2) (hx : HxOk E G 3 exm) (hk : IsOk E G 3 exm) (c_checked_spans : Fd E G (Str.ofString "checked_spans") 2 F_checked_spans []) : JSs E G (fnPl N__law_checked 2 (defScope s__law_checked)) 2 [] (defBody s__law_checked) ev__law_checked :=
  ss_cons (s_tryAs (i := 1) hG (ss_cons (s_ret (j_own c_checked_spans (by decide) (by decide +kernel) (j_dfr (by decide +kernel) (j_nil))))
  (ss_nil)) (x_if (x_val (x_is hk (by decide) rfl (by decide +kernel) m_isinstance (by decide +kernel) (by decide +kernel) x_BarError.mg)) (x_non) (x_str)) (by decide +kernel) x_InvalidSpan.mg (by decide) hx (by exact nd__law_checked) (by decide +kernel) (by decide +kernel) (by decide))
  (ss_nil)
theorem sc__law_checked : FnScope N__law_checked [Str.ofString "rows"] (defScope s__law_checked) := ⟨rfl, rfl, rfl, by decide +kernel, rfl, by decide +kernel, by decide +kernel⟩
abbrev s__law_text : Stmt := top 23
def N__law_text : List Str := [Str.ofString "state", Str.ofString "word", Str.ofString "k", Str.ofString "begin", Str.ofString "part"]
theorem nd__law_text : N__law_text.Nodup := by decide +kernel
theorem b__law_text {E : En} {G : GC} (hG : G.K = E.K) (m_range : E.mg (Str.ofString "range") = none) (m_str : E.mg (Str.ofString "str") = none) (c__law_take : Fd E G (Str.ofString "_law_take") 2 F__law_take []) : JSs E G (fnPl N__law_text 2 (defScope s__law_text)) 5 [0] (defBody s__law_text) ev__law_text :=
  ss_cons (s_asg (by decide +kernel) (by exact nd__law_text) (by decide) (by decide) (j_str))
  (ss_cons (s_for (pn' := [0]) (j_rng1 (by decide +kernel) m_range (j_cons (j_bin hG ok_add (.cc (j_int) (j_ownM c__law_take (by decide) (by decide +kernel) (by decide +kernel) (j_cons (j_int) (j_nil))) (by decide) (by decide))) (j_nil))) rt_rng (fun _ h => nomatch h) (by decide) (j_tg (by decide +kernel) (by exact nd__law_text) (by decide) (by decide)) (ss_cons (s_asg (by decide +kernel) (by exact nd__law_text) (by decide) (by decide) (j_ownM c__law_take (by decide) (by decide +kernel) (by decide +kernel) (j_cons (j_int) (j_nil))))
  (ss_cons (s_asg (by decide +kernel) (by exact nd__law_text) (by decide) (by decide) (j_ix hG ok_item (.cc (j_lst (j_cons (j_bin hG ok_add (.cc (j_bin hG ok_add (.cc (j_ty hG ok_str (by decide +kernel) m_str (by decide +kernel) (j_dfr (by decide +kernel) (j_nil))) (j_str) (by decide) (by decide))) (j_ty hG ok_str (by decide +kernel) m_str (by decide +kernel) (j_cons (j_bin hG ok_add (.dc (by decide +kernel) (j_ownM c__law_take (by decide) (by decide +kernel) (by decide +kernel) (j_cons (j_int) (j_nil))) (by decide))) (j_nil))) (by decide) (by decide))) (j_cons (j_str) (j_cons (j_str) (j_cons (j_str) (j_cons (j_str) (j_cons (j_str) (j_cons (j_str) (j_cons (j_str) (j_cons (j_str) (j_nil))))))))))) (j_ix hG ok_item (.cc (j_lst (j_cons (j_int) (j_cons (j_int) (j_cons (j_int) (j_cons (j_int) (j_cons (j_int) (j_cons (j_int) (j_cons (j_int) (j_cons (j_int) (j_cons (j_int) (j_cons (j_int) (j_cons (j_int) (j_cons (j_int) (j_cons (j_int) (j_nil))))))))))))))) (j_ownM c__law_take (by decide) (by decide +kernel) (by decide +kernel) (j_cons (j_int) (j_nil))) (by decide) (by decide))) (by decide) (by decide))))
  (ss_cons (s_asg (by decide +kernel) (by exact nd__law_text) (by decide) (by decide) (j_if (j_tcmp hG ok_eq (.dc (by decide +kernel) (j_int) (by decide))) (j_fv (by decide +kernel)) (j_bin hG ok_add (.cc (j_bin hG ok_add (.dc (by decide +kernel) (j_str) (by decide))) (j_var (by decide +kernel)) (by decide) (by decide)))))
  (ss_nil)))))
  (ss_cons (s_ret (j_mv (by decide +kernel)))
  (ss_nil)))
theorem sc__law_text : FnScope N__law_text [Str.ofString "state"] (defScope s__law_text) := ⟨rfl, rfl, rfl, by decide +kernel, rfl, by decide +kernel, by decide +kernel⟩
abbrev s__law_number : Stmt := top 24
def N__law_number : List Str := [Str.ofString "word", Str.ofString "sign"]
theorem nd__law_number : N__law_number.Nodup := by decide +kernel
theorem b__law_number {E : En} {G : GC} (hG : G.K = E.K) (m_int : E.mg (Str.ofString "int") = none) (m_len : E.mg (Str.ofString "len") = none) : JSs E G (fnPl N__law_number 0 (defScope s__law_number)) 2 [] (defBody s__law_number) ev__law_number :=
  ss_cons (s_if (j_w (j_wor (j_tnot (j_tchain hG ok_le ok_le (j_int) (j_bi hG ok_len (by decide +kernel) m_len (by decide +kernel) (j_dfr (by decide +kernel) (j_nil))) (j_int))) (j_wor (j_tcmp hG ok_gt (.cc (j_bi hG ok_len (by decide +kernel) m_len (by decide +kernel) (j_cons (JLc.pe (j_lcK (own := [(Str.ofString "sign", 1)]) (by exact nd__law_number) (by decide +kernel) (j_srcV hG (by decide +kernel)) rt_src (fun i h => by cases h; decide) (j_tg (by decide +kernel) (by exact nd__law_number) (by decide) (by decide)) (j_tst (j_tcmp hG ok_notIn (.dc (by decide +kernel) (j_str) (by decide)))) (j_fv (by decide +kernel)))) (j_nil))) (j_int) (by decide) (by decide))) (j_wo1 (j_w (j_wand (j_tcmp hG ok_gt (.cc (j_bi hG ok_len (by decide +kernel) m_len (by decide +kernel) (j_dfr (by decide +kernel) (j_nil))) (j_int) (by decide) (by decide))) (j_wa1 (j_tcmp hG ok_eq (.cc (j_ix hG ok_item (.dc (by decide +kernel) (j_int) (by decide))) (j_str) (by decide) (by decide)))))))))) (ss_cons (s_ret (j_non))
  (ss_nil)) (ss_nil))
  (ss_cons (s_ret (j_if (j_tcmp hG ok_le (.cc (j_ty hG ok_int (by decide +kernel) m_int (by decide +kernel) (j_dfr (by decide +kernel) (j_nil))) (j_int) (by decide) (by decide))) (j_ty hG ok_int (by decide +kernel) m_int (by decide +kernel) (j_dfr (by decide +kernel) (j_nil))) (j_non)))
  (ss_nil))
theorem sc__law_number : FnScope N__law_number [Str.ofString "word"] (defScope s__law_number) := ⟨rfl, rfl, rfl, by decide +kernel, rfl, by decide +kernel, by decide +kernel⟩
abbrev s__law_due : Stmt := top 25
def N__law_due : List Str := [Str.ofString "word", Str.ofString "found", Str.ofString "part", Str.ofString "ends"]
theorem nd__law_due : N__law_due.Nodup := by decide +kernel
theorem b__law_due {E : En} {G : GC} (hG : G.K = E.K) (m_len : E.mg (Str.ofString "len") = none) (c__law_good : Fd E G (Str.ofString "_law_good") 1 F__law_good []) (c__law_number : Fd E G (Str.ofString "_law_number") 1 F__law_number []) : JSs E G (fnPl N__law_due 1 (defScope s__law_due)) 4 [] (defBody s__law_due) ev__law_due :=
  ss_cons (s_if (j_tcmp hG ok_eq (.dc (by decide +kernel) (j_str) (by decide))) (ss_cons (s_ret (j_lst (j_nil)))
  (ss_nil)) (ss_nil))
  (ss_cons (s_asg (by decide +kernel) (by exact nd__law_due) (by decide) (by decide) (j_lst (j_nil)))
  (ss_cons (s_for (pn' := []) (j_src hG (j_sm1 hG PySem.F.slot_str_split PySem.F.type_str_split ok_split (j_var (by decide +kernel)) (j_str))) rt_src (fun _ h => nomatch h) (by decide) (j_tg (by decide +kernel) (by exact nd__law_due) (by decide) (by decide)) (ss_cons (s_asg (by decide +kernel) (by exact nd__law_due) (by decide) (by decide) (j_sm1 hG PySem.F.slot_str_split PySem.F.type_str_split ok_split (j_var (by decide +kernel)) (j_str)))
  (ss_cons (s_if (j_tcmp hG ok_ne (.cc (j_bi hG ok_len (by decide +kernel) m_len (by decide +kernel) (j_dfr (by decide +kernel) (j_nil))) (j_int) (by decide) (by decide))) (ss_cons (s_ret (j_str))
  (ss_nil)) (ss_nil))
  (ss_cons (s_if (j_w (j_wor (j_tcmp hG ok_is (.cc (j_own c__law_number (by decide) (by decide +kernel) (j_cons (j_ix hG ok_item (.dc (by decide +kernel) (j_int) (by decide))) (j_nil))) (j_non) (by decide) (by decide))) (j_wo1 (j_tcmp hG ok_is (.cc (j_own c__law_number (by decide) (by decide +kernel) (j_cons (j_ix hG ok_item (.dc (by decide +kernel) (j_int) (by decide))) (j_nil))) (j_non) (by decide) (by decide)))))) (ss_cons (s_ret (j_str))
  (ss_nil)) (ss_nil))
  (ss_cons (s_app hG (by decide +kernel) (j_tup (j_cons (j_own c__law_number (by decide) (by decide +kernel) (j_cons (j_ix hG ok_item (.dc (by decide +kernel) (j_int) (by decide))) (j_nil))) (j_cons (j_own c__law_number (by decide) (by decide +kernel) (j_cons (j_ix hG ok_item (.dc (by decide +kernel) (j_int) (by decide))) (j_nil))) (j_nil)))))
  (ss_nil))))))
  (ss_cons (s_ret (j_if (j_tval hG (j_own c__law_good (by decide) (by decide +kernel) (j_dfr (by decide +kernel) (j_nil)))) (j_fv (by decide +kernel)) (j_str)))
  (ss_nil))))
theorem sc__law_due : FnScope N__law_due [Str.ofString "word"] (defScope s__law_due) := ⟨rfl, rfl, rfl, by decide +kernel, rfl, by decide +kernel, by decide +kernel⟩
abbrev s__law_read : Stmt := top 26
def N__law_read : List Str := [Str.ofString "word"]
theorem nd__law_read : N__law_read.Nodup := by decide +kernel
theorem b__law_read {E : En} {G : GC} (hG : G.K = E.K) (x_InvalidNumber : ExF E G (Str.ofString "InvalidNumber") 1) (x_InvalidSpan : ExF E G (Str.ofString "InvalidSpan") 2) (hx : HxOk E G 3 exm) (c_parse_spans : Fd E G (Str.ofString "parse_spans") 4 F_parse_spans []) : JSs E G (fnPl N__law_read 4 (defScope s__law_read)) 1 [] (defBody s__law_read) ev__law_read :=
  ss_cons (s_try hG (ss_cons (s_ret (j_own c_parse_spans (by decide) (by decide +kernel) (j_dfr (by decide +kernel) (j_nil))))
  (ss_nil)) (.cons (by decide +kernel) x_InvalidSpan.mg (ss_cons (s_ret (j_str))
  (ss_nil)) (.cons (by decide +kernel) x_InvalidNumber.mg (ss_cons (s_ret (j_str))
  (ss_nil)) (.nil))) (hx_of hx rfl))
  (ss_nil)
theorem sc__law_read : FnScope N__law_read [Str.ofString "word"] (defScope s__law_read) := ⟨rfl, rfl, rfl, by decide +kernel, rfl, by decide +kernel, by decide +kernel⟩
abbrev s_law : Stmt := top 27
def N_law : List Str := [Str.ofString "script", Str.ofString "state", Str.ofString "k", Str.ofString "rows", Str.ofString "handed", Str.ofString "word", Str.ofString "text", Str.ofString "begin", Str.ofString "end"]
theorem nd_law : N_law.Nodup := by decide +kernel
theorem b_law {E : En} {G : GC} (hG : G.K = E.K) (m_list : E.mg (Str.ofString "list") = none) (m_range : E.mg (Str.ofString "range") = none) (m_str : E.mg (Str.ofString "str") = none) (m_tuple : E.mg (Str.ofString "tuple") = none) (c__law_checked : Fd E G (Str.ofString "_law_checked") 3 F__law_checked []) (c__law_due : Fd E G (Str.ofString "_law_due") 2 F__law_due []) (c__law_good : Fd E G (Str.ofString "_law_good") 1 F__law_good []) (c__law_read : Fd E G (Str.ofString "_law_read") 5 F__law_read []) (c__law_rows : Fd E G (Str.ofString "_law_rows") 4 F__law_rows []) (c__law_text : Fd E G (Str.ofString "_law_text") 3 F__law_text []) (c_checked_spans : Fd E G (Str.ofString "checked_spans") 2 F_checked_spans []) (c_format_spans : Fd E G (Str.ofString "format_spans") 1 F_format_spans []) (c_parse_spans : Fd E G (Str.ofString "parse_spans") 4 F_parse_spans []) : JSs E G (fnPl N_law 5 (defScope s_law)) 9 [] (defBody s_law) ev_law :=
  ss_cons (s_asg (by decide +kernel) (by exact nd_law) (by decide) (by decide) (j_lst (j_dfr (by decide +kernel) (j_cons (j_int) (j_cons (j_int) (j_nil))))))
  (ss_cons (s_for (pn' := []) (j_rng1 (by decide +kernel) m_range (j_cons (j_int) (j_nil))) rt_rng (fun _ h => nomatch h) (by decide) (j_tg (by decide +kernel) (by exact nd_law) (by decide) (by decide)) (ss_cons (s_asg (by decide +kernel) (by exact nd_law) (by decide) (by decide) (j_ownM c__law_rows (by decide) (by decide +kernel) (by decide +kernel) (j_nil)))
  (ss_cons (s_asg (by decide +kernel) (by exact nd_law) (by decide) (by decide) (j_ty hG ok_list (by decide +kernel) m_list (by decide +kernel) (j_dfr (by decide +kernel) (j_nil))))
  (ss_cons (s_if (j_w (j_wor (j_tcmp hG ok_ne (.cc (j_own c__law_checked (by decide) (by decide +kernel) (j_dfr (by decide +kernel) (j_nil))) (j_if (j_tval hG (j_own c__law_good (by decide) (by decide +kernel) (j_dfr (by decide +kernel) (j_nil)))) (j_fv (by decide +kernel)) (j_non)) (by decide) (by decide))) (j_wo1 (j_tcmp hG ok_ne (.cc (j_own c__law_checked (by decide) (by decide +kernel) (j_cons (j_ty hG ok_tuple (by decide +kernel) m_tuple (by decide +kernel) (j_dfr (by decide +kernel) (j_nil))) (j_nil))) (j_if (j_tval hG (j_own c__law_good (by decide) (by decide +kernel) (j_dfr (by decide +kernel) (j_nil)))) (j_fv (by decide +kernel)) (j_non)) (by decide) (by decide)))))) (ss_cons (s_ret (j_bl))
  (ss_nil)) (ss_nil))
  (ss_cons (s_if (j_tval hG (j_own c__law_good (by decide) (by decide +kernel) (j_dfr (by decide +kernel) (j_nil)))) (ss_cons (s_asg (by decide +kernel) (by exact nd_law) (by decide) (by decide) (j_if (j_tcmp hG ok_ne (.dc (by decide +kernel) (j_lst (j_nil)) (by decide))) (j_sm1 hG PySem.F.slot_str_join PySem.F.type_str_join ok_join (j_str) (JLc.pe (j_lcK (own := [(Str.ofString "begin", 7), (Str.ofString "end", 8)]) (by exact nd_law) (by decide +kernel) (j_srcV hG (by decide +kernel)) rt_src (fun i h => by cases h; decide) (j_tgt hG (j_ns (by decide +kernel) (by exact nd_law) (by decide) (by decide) (j_ns (by decide +kernel) (by exact nd_law) (by decide) (by decide) (j_ns0)))) (j_yes) (j_bin hG ok_add (.cc (j_bin hG ok_add (.cc (j_ty hG ok_str (by decide +kernel) m_str (by decide +kernel) (j_dfr (by decide +kernel) (j_nil))) (j_str) (by decide) (by decide))) (j_ty hG ok_str (by decide +kernel) m_str (by decide +kernel) (j_dfr (by decide +kernel) (j_nil))) (by decide) (by decide)))))) (j_str)))
  (ss_cons (s_if (j_w (j_wor (j_tcmp hG ok_ne (.cc (j_own c_format_spans (by decide) (by decide +kernel) (j_dfr (by decide +kernel) (j_nil))) (j_var (by decide +kernel)) (by decide) (by decide))) (j_wo1 (j_tcmp hG ok_ne (.cc (j_own c_parse_spans (by decide) (by decide +kernel) (j_dfr (by decide +kernel) (j_nil))) (j_var (by decide +kernel)) (by decide) (by decide)))))) (ss_cons (s_ret (j_bl))
  (ss_nil)) (ss_nil))
  (ss_cons (s_appT hG (j_own c_checked_spans (by decide) (by decide +kernel) (j_dfr (by decide +kernel) (j_nil))) (j_int))
  (ss_nil)))) (ss_nil))
  (ss_cons (s_asg (by decide +kernel) (by exact nd_law) (by decide) (by decide) (j_ownM c__law_text (by decide) (by decide +kernel) (by decide +kernel) (j_nil)))
  (ss_cons (s_if (j_tcmp hG ok_ne (.cc (j_own c__law_read (by decide) (by decide +kernel) (j_dfr (by decide +kernel) (j_nil))) (j_own c__law_due (by decide) (by decide +kernel) (j_dfr (by decide +kernel) (j_nil))) (by decide) (by decide))) (ss_cons (s_ret (j_bl))
  (ss_nil)) (ss_nil))
  (ss_nil))))))))
  (ss_cons (s_ret (j_andV (j_cmp hG ok_eq (.cc (j_own c__law_read (by decide) (by decide +kernel) (j_cons (j_str) (j_nil))) (j_str) (by decide) (by decide))) (j_one (j_opq (j_cmp hG ok_eq (.cc (j_own c_format_spans (by decide) (by decide +kernel) (j_cons (j_lst (j_nil)) (j_nil))) (j_str) (by decide) (by decide)))))))
  (ss_nil)))
theorem sc_law : FnScope N_law [Str.ofString "script"] (defScope s_law) := ⟨rfl, rfl, rfl, by decide +kernel, rfl, by decide +kernel, by decide +kernel⟩
end K12
namespace K12
open PySem PD SX
abbrev scr (ns : List Int) : D := .lst .k (ns.map .int)
abbrev stt (ns : List Int) (p v : Int) : D := .lst .o [scr ns, .int p, .int v]
theorem cell_ok (ns : List Int) (p : Nat) : ∃ c : Int, 0 ≤ c ∧ F__law_cell [scr ns, .int p] = some (.ok (.int c), [none, none]) := by
  unfold F__law_cell
  by_cases h : p < ns.length
  · refine ⟨if ns[p] < 0 then - ns[p] else ns[p], by split <;> omega, fn_go rfl ?_⟩
    show Go ev__law_cell [some (scr ns), some (.int p)] _
    have hp : p < (ns.map D.int).length := by simpa using h
    simp only [ev__law_cell, e_cst, e_nil, e_yes, e_var, e_fv, e_mv, e_cons, e_dfr, e_op, e_tup, e_lst, e_tr, e_notT, e_andT, e_orT, e_andV, e_orV, e_notV, e_opq, e_if, e_call, e_callM, e_chain, e_src, e_rng, e_lc, g_nx, g_retN, g_brk, g_cnt, g_seq, g_drop, g_ret, g_asg, g_if, g_for, g_app, g_set, kk_ok, kS_ok, kQ_nx, kQ_rt, kQ_bk, kQ_ct, kk_ex, kS_ex, kQ_ex, g_raise, e_isi, g_asgT, e_grd, g_try, g_tryAs, g_appT, e_chainN, lkQ_1, lkQ_2, noX_rt, noX_nx, noX_bk, noX_ct, hdQ_0, hdQ_s, tryQ_ex, tryQ_rt, tryQ_nx, tryQ_bk, tryQ_ct, tasQ_ex, tasQ_rt, tasQ_nx, tasQ_bk, tasQ_ct, has_some, sl_0, sl_s, st_0, st_s, v_add, v_sub, v_neg, v_lt, v_le, v_gt, v_ge, v_eqi, v_nei, v_is, v_isNot, v_len, v_lenT, v_abs, v_int, v_item, v_itemT, v_list, v_max, v_min, v_repr, blD_bl, truD_bl, truD_lst, isF_int, isF_bl, isF_non, isF_tup, isF_str, isF_lf, isF_lk, isF_lo, isF_ll, at_0, at_1, at_2, ix_0, ix_1, ix_2, cap_i, cap_t, noL_i, noL_n, noL_b, noL_t, ck_0, ck_s, lk_0, lk_1, lk_2, lk_3, lk_4, ln_0, ln_1, ln_2, ln_3, ln_4, own_o, own_l, own_f, its_o, its_l, its_f, lend_o, lend_i, lend_b, lend_n, lend_s, lend_t, cap_k, cap_f, lend_l, lend_f, sh_o, sh_l, sh_f, sh_k, Bool.or_true, Bool.true_or, Bool.or_false, Bool.false_or, intD, isLst, lstO, List.set_cons_zero, List.set_cons_succ, bind_S, ty_i, ty_b, ty_s, ty_t, ty_l, ty_n, is_ii, is_ib, is_is, is_it, is_il, is_bi, is_bb, is_bs, is_bt, is_bl, is_si, is_sb, is_ss, is_st, is_sl, is_ti, is_tb, is_ts, is_tt, is_tl, is_li, is_lb, is_ls, is_lt, is_ll, is_ni, is_nb, is_ns, is_nt, is_nl, v_eqS, v_neS, v_inS, v_notInS, truD_n, truD_t, cap_s, cap_n, cap_b, noL_s, its_t, own_t, own_s, its_s, sv_n, sv_i, sv_s, sv_b, isStr_s, isNon_n, isNon_i, isNon_s, isNon_t, isNon_l, v_tup, forL_0, kL_nx, kL_ct, kL_bk, kL_rt, kL_ex, tg_n, tg_t, tg_0, tg_s, wp_0, wp_s, bk_0, bk_s, rd_0, rd_s, sb_a, sb_l, si_a, si_l, hd_0, out_t, out_f, argD, ite_self, List.map_cons, List.map_nil, List.append_nil, List.cons_append, List.nil_append, Bool.and_true, Bool.true_and, Bool.not_true, Bool.not_false, Bool.and_false, Bool.false_and, true_and, and_true, decide_eq_true_eq, Bool.false_eq_true, if_false, if_true, ite_true, ite_false, reduceIte, Bool.not_eq_true', Bool.true_eq_false, eq_self, at_nat hp]
    rw [if_pos (by simpa using h)]
    simp only [List.getElem_map, e_cst, e_nil, e_yes, e_var, e_fv, e_mv, e_cons, e_dfr, e_op, e_tup, e_lst, e_tr, e_notT, e_andT, e_orT, e_andV, e_orV, e_notV, e_opq, e_if, e_call, e_callM, e_chain, e_src, e_rng, e_lc, g_nx, g_retN, g_brk, g_cnt, g_seq, g_drop, g_ret, g_asg, g_if, g_for, g_app, g_set, kk_ok, kS_ok, kQ_nx, kQ_rt, kQ_bk, kQ_ct, kk_ex, kS_ex, kQ_ex, g_raise, e_isi, g_asgT, e_grd, g_try, g_tryAs, g_appT, e_chainN, lkQ_1, lkQ_2, noX_rt, noX_nx, noX_bk, noX_ct, hdQ_0, hdQ_s, tryQ_ex, tryQ_rt, tryQ_nx, tryQ_bk, tryQ_ct, tasQ_ex, tasQ_rt, tasQ_nx, tasQ_bk, tasQ_ct, has_some, sl_0, sl_s, st_0, st_s, v_add, v_sub, v_neg, v_lt, v_le, v_gt, v_ge, v_eqi, v_nei, v_is, v_isNot, v_len, v_lenT, v_abs, v_int, v_item, v_itemT, v_list, v_max, v_min, v_repr, blD_bl, truD_bl, truD_lst, isF_int, isF_bl, isF_non, isF_tup, isF_str, isF_lf, isF_lk, isF_lo, isF_ll, at_0, at_1, at_2, ix_0, ix_1, ix_2, cap_i, cap_t, noL_i, noL_n, noL_b, noL_t, ck_0, ck_s, lk_0, lk_1, lk_2, lk_3, lk_4, ln_0, ln_1, ln_2, ln_3, ln_4, own_o, own_l, own_f, its_o, its_l, its_f, lend_o, lend_i, lend_b, lend_n, lend_s, lend_t, cap_k, cap_f, lend_l, lend_f, sh_o, sh_l, sh_f, sh_k, Bool.or_true, Bool.true_or, Bool.or_false, Bool.false_or, intD, isLst, lstO, List.set_cons_zero, List.set_cons_succ, bind_S, ty_i, ty_b, ty_s, ty_t, ty_l, ty_n, is_ii, is_ib, is_is, is_it, is_il, is_bi, is_bb, is_bs, is_bt, is_bl, is_si, is_sb, is_ss, is_st, is_sl, is_ti, is_tb, is_ts, is_tt, is_tl, is_li, is_lb, is_ls, is_lt, is_ll, is_ni, is_nb, is_ns, is_nt, is_nl, v_eqS, v_neS, v_inS, v_notInS, truD_n, truD_t, cap_s, cap_n, cap_b, noL_s, its_t, own_t, own_s, its_s, sv_n, sv_i, sv_s, sv_b, isStr_s, isNon_n, isNon_i, isNon_s, isNon_t, isNon_l, v_tup, forL_0, kL_nx, kL_ct, kL_bk, kL_rt, kL_ex, tg_n, tg_t, tg_0, tg_s, wp_0, wp_s, bk_0, bk_s, rd_0, rd_s, sb_a, sb_l, si_a, si_l, hd_0, out_t, out_f, argD, ite_self, List.map_cons, List.map_nil, List.append_nil, List.cons_append, List.nil_append, Bool.and_true, Bool.true_and, Bool.not_true, Bool.not_false, Bool.and_false, Bool.false_and, true_and, and_true, decide_eq_true_eq, Bool.false_eq_true, if_false, if_true, ite_true, ite_false, reduceIte, Bool.not_eq_true', Bool.true_eq_false, eq_self]
    rfl
  · refine ⟨37 * p + 11, by omega, fn_go rfl ?_⟩
    show Go ev__law_cell [some (scr ns), some (.int p)] _
    simp only [ev__law_cell, e_cst, e_nil, e_yes, e_var, e_fv, e_mv, e_cons, e_dfr, e_op, e_tup, e_lst, e_tr, e_notT, e_andT, e_orT, e_andV, e_orV, e_notV, e_opq, e_if, e_call, e_callM, e_chain, e_src, e_rng, e_lc, g_nx, g_retN, g_brk, g_cnt, g_seq, g_drop, g_ret, g_asg, g_if, g_for, g_app, g_set, kk_ok, kS_ok, kQ_nx, kQ_rt, kQ_bk, kQ_ct, kk_ex, kS_ex, kQ_ex, g_raise, e_isi, g_asgT, e_grd, g_try, g_tryAs, g_appT, e_chainN, lkQ_1, lkQ_2, noX_rt, noX_nx, noX_bk, noX_ct, hdQ_0, hdQ_s, tryQ_ex, tryQ_rt, tryQ_nx, tryQ_bk, tryQ_ct, tasQ_ex, tasQ_rt, tasQ_nx, tasQ_bk, tasQ_ct, has_some, sl_0, sl_s, st_0, st_s, v_add, v_sub, v_neg, v_lt, v_le, v_gt, v_ge, v_eqi, v_nei, v_is, v_isNot, v_len, v_lenT, v_abs, v_int, v_item, v_itemT, v_list, v_max, v_min, v_repr, blD_bl, truD_bl, truD_lst, isF_int, isF_bl, isF_non, isF_tup, isF_str, isF_lf, isF_lk, isF_lo, isF_ll, at_0, at_1, at_2, ix_0, ix_1, ix_2, cap_i, cap_t, noL_i, noL_n, noL_b, noL_t, ck_0, ck_s, lk_0, lk_1, lk_2, lk_3, lk_4, ln_0, ln_1, ln_2, ln_3, ln_4, own_o, own_l, own_f, its_o, its_l, its_f, lend_o, lend_i, lend_b, lend_n, lend_s, lend_t, cap_k, cap_f, lend_l, lend_f, sh_o, sh_l, sh_f, sh_k, Bool.or_true, Bool.true_or, Bool.or_false, Bool.false_or, intD, isLst, lstO, List.set_cons_zero, List.set_cons_succ, bind_S, ty_i, ty_b, ty_s, ty_t, ty_l, ty_n, is_ii, is_ib, is_is, is_it, is_il, is_bi, is_bb, is_bs, is_bt, is_bl, is_si, is_sb, is_ss, is_st, is_sl, is_ti, is_tb, is_ts, is_tt, is_tl, is_li, is_lb, is_ls, is_lt, is_ll, is_ni, is_nb, is_ns, is_nt, is_nl, v_eqS, v_neS, v_inS, v_notInS, truD_n, truD_t, cap_s, cap_n, cap_b, noL_s, its_t, own_t, own_s, its_s, sv_n, sv_i, sv_s, sv_b, isStr_s, isNon_n, isNon_i, isNon_s, isNon_t, isNon_l, v_tup, forL_0, kL_nx, kL_ct, kL_bk, kL_rt, kL_ex, tg_n, tg_t, tg_0, tg_s, wp_0, wp_s, bk_0, bk_s, rd_0, rd_s, sb_a, sb_l, si_a, si_l, hd_0, out_t, out_f, argD, ite_self, List.map_cons, List.map_nil, List.append_nil, List.cons_append, List.nil_append, Bool.and_true, Bool.true_and, Bool.not_true, Bool.not_false, Bool.and_false, Bool.false_and, true_and, and_true, decide_eq_true_eq, Bool.false_eq_true, if_false, if_true, ite_true, ite_false, reduceIte, Bool.not_eq_true', Bool.true_eq_false, eq_self]
    rw [if_neg (by simpa using h), v_mul (mulL (by decide))]
    simp only [e_cst, e_nil, e_yes, e_var, e_fv, e_mv, e_cons, e_dfr, e_op, e_tup, e_lst, e_tr, e_notT, e_andT, e_orT, e_andV, e_orV, e_notV, e_opq, e_if, e_call, e_callM, e_chain, e_src, e_rng, e_lc, g_nx, g_retN, g_brk, g_cnt, g_seq, g_drop, g_ret, g_asg, g_if, g_for, g_app, g_set, kk_ok, kS_ok, kQ_nx, kQ_rt, kQ_bk, kQ_ct, kk_ex, kS_ex, kQ_ex, g_raise, e_isi, g_asgT, e_grd, g_try, g_tryAs, g_appT, e_chainN, lkQ_1, lkQ_2, noX_rt, noX_nx, noX_bk, noX_ct, hdQ_0, hdQ_s, tryQ_ex, tryQ_rt, tryQ_nx, tryQ_bk, tryQ_ct, tasQ_ex, tasQ_rt, tasQ_nx, tasQ_bk, tasQ_ct, has_some, sl_0, sl_s, st_0, st_s, v_add, v_sub, v_neg, v_lt, v_le, v_gt, v_ge, v_eqi, v_nei, v_is, v_isNot, v_len, v_lenT, v_abs, v_int, v_item, v_itemT, v_list, v_max, v_min, v_repr, blD_bl, truD_bl, truD_lst, isF_int, isF_bl, isF_non, isF_tup, isF_str, isF_lf, isF_lk, isF_lo, isF_ll, at_0, at_1, at_2, ix_0, ix_1, ix_2, cap_i, cap_t, noL_i, noL_n, noL_b, noL_t, ck_0, ck_s, lk_0, lk_1, lk_2, lk_3, lk_4, ln_0, ln_1, ln_2, ln_3, ln_4, own_o, own_l, own_f, its_o, its_l, its_f, lend_o, lend_i, lend_b, lend_n, lend_s, lend_t, cap_k, cap_f, lend_l, lend_f, sh_o, sh_l, sh_f, sh_k, Bool.or_true, Bool.true_or, Bool.or_false, Bool.false_or, intD, isLst, lstO, List.set_cons_zero, List.set_cons_succ, bind_S, ty_i, ty_b, ty_s, ty_t, ty_l, ty_n, is_ii, is_ib, is_is, is_it, is_il, is_bi, is_bb, is_bs, is_bt, is_bl, is_si, is_sb, is_ss, is_st, is_sl, is_ti, is_tb, is_ts, is_tt, is_tl, is_li, is_lb, is_ls, is_lt, is_ll, is_ni, is_nb, is_ns, is_nt, is_nl, v_eqS, v_neS, v_inS, v_notInS, truD_n, truD_t, cap_s, cap_n, cap_b, noL_s, its_t, own_t, own_s, its_s, sv_n, sv_i, sv_s, sv_b, isStr_s, isNon_n, isNon_i, isNon_s, isNon_t, isNon_l, v_tup, forL_0, kL_nx, kL_ct, kL_bk, kL_rt, kL_ex, tg_n, tg_t, tg_0, tg_s, wp_0, wp_s, bk_0, bk_s, rd_0, rd_s, sb_a, sb_l, si_a, si_l, hd_0, out_t, out_f, argD, ite_self, List.map_cons, List.map_nil, List.append_nil, List.cons_append, List.nil_append, Bool.and_true, Bool.true_and, Bool.not_true, Bool.not_false, Bool.and_false, Bool.false_and, true_and, and_true, decide_eq_true_eq, Bool.false_eq_true, if_false, if_true, ite_true, ite_false, reduceIte, Bool.not_eq_true', Bool.true_eq_false, eq_self]
    rfl
theorem take_ok (ns : List Int) (p : Nat) (v L : Int) (hv : 0 ≤ v) (hL : 0 < L) (hL2 : L < 1073741824) : ∃ (r : Int) (p' : Nat) (v' : Int), 0 ≤ r ∧ r < L ∧ 0 ≤ v' ∧ F__law_take [stt ns p v, .int L] = some (.ok (.int r), [some (stt ns p' v'), none]) := by
  unfold F__law_take
  by_cases h : 0 < v
  · refine ⟨v % L, p, v / L, Int.emod_nonneg _ (by omega), Int.emod_lt_of_pos _ hL, Int.ediv_nonneg (by omega) (by omega), fn_go rfl ?_⟩
    show Go ev__law_take [some (stt ns p v), some (.int L), none, none] _
    simp only [ev__law_take, e_cst, e_nil, e_yes, e_var, e_fv, e_mv, e_cons, e_dfr, e_op, e_tup, e_lst, e_tr, e_notT, e_andT, e_orT, e_andV, e_orV, e_notV, e_opq, e_if, e_call, e_callM, e_chain, e_src, e_rng, e_lc, g_nx, g_retN, g_brk, g_cnt, g_seq, g_drop, g_ret, g_asg, g_if, g_for, g_app, g_set, kk_ok, kS_ok, kQ_nx, kQ_rt, kQ_bk, kQ_ct, kk_ex, kS_ex, kQ_ex, g_raise, e_isi, g_asgT, e_grd, g_try, g_tryAs, g_appT, e_chainN, lkQ_1, lkQ_2, noX_rt, noX_nx, noX_bk, noX_ct, hdQ_0, hdQ_s, tryQ_ex, tryQ_rt, tryQ_nx, tryQ_bk, tryQ_ct, tasQ_ex, tasQ_rt, tasQ_nx, tasQ_bk, tasQ_ct, has_some, sl_0, sl_s, st_0, st_s, v_add, v_sub, v_neg, v_lt, v_le, v_gt, v_ge, v_eqi, v_nei, v_is, v_isNot, v_len, v_lenT, v_abs, v_int, v_item, v_itemT, v_list, v_max, v_min, v_repr, blD_bl, truD_bl, truD_lst, isF_int, isF_bl, isF_non, isF_tup, isF_str, isF_lf, isF_lk, isF_lo, isF_ll, at_0, at_1, at_2, ix_0, ix_1, ix_2, cap_i, cap_t, noL_i, noL_n, noL_b, noL_t, ck_0, ck_s, lk_0, lk_1, lk_2, lk_3, lk_4, ln_0, ln_1, ln_2, ln_3, ln_4, own_o, own_l, own_f, its_o, its_l, its_f, lend_o, lend_i, lend_b, lend_n, lend_s, lend_t, cap_k, cap_f, lend_l, lend_f, sh_o, sh_l, sh_f, sh_k, Bool.or_true, Bool.true_or, Bool.or_false, Bool.false_or, intD, isLst, lstO, List.set_cons_zero, List.set_cons_succ, bind_S, ty_i, ty_b, ty_s, ty_t, ty_l, ty_n, is_ii, is_ib, is_is, is_it, is_il, is_bi, is_bb, is_bs, is_bt, is_bl, is_si, is_sb, is_ss, is_st, is_sl, is_ti, is_tb, is_ts, is_tt, is_tl, is_li, is_lb, is_ls, is_lt, is_ll, is_ni, is_nb, is_ns, is_nt, is_nl, v_eqS, v_neS, v_inS, v_notInS, truD_n, truD_t, cap_s, cap_n, cap_b, noL_s, its_t, own_t, own_s, its_s, sv_n, sv_i, sv_s, sv_b, isStr_s, isNon_n, isNon_i, isNon_s, isNon_t, isNon_l, v_tup, forL_0, kL_nx, kL_ct, kL_bk, kL_rt, kL_ex, tg_n, tg_t, tg_0, tg_s, wp_0, wp_s, bk_0, bk_s, rd_0, rd_s, sb_a, sb_l, si_a, si_l, hd_0, out_t, out_f, argD, ite_self, List.map_cons, List.map_nil, List.append_nil, List.cons_append, List.nil_append, Bool.and_true, Bool.true_and, Bool.not_true, Bool.not_false, Bool.and_false, Bool.false_and, true_and, and_true, decide_eq_true_eq, Bool.false_eq_true, if_false, if_true, ite_true, ite_false, reduceIte, Bool.not_eq_true', Bool.true_eq_false, eq_self, v_mod hL, v_div ⟨hL, hL2⟩]
    rw [if_pos h]
    rfl
  · obtain ⟨c, hc, ec⟩ := cell_ok ns p
    have ecc : cap (scr ns) = scr ns := rfl
    have pw : gPow [.int 10, .int 9] = some (.int 1000000000) := by rfl
    by_cases h2 : 1000000000 ≤ c
    · refine ⟨c % L, p + 1, c / L, Int.emod_nonneg _ (by omega), Int.emod_lt_of_pos _ hL, Int.ediv_nonneg (by omega) (by omega), fn_go rfl ?_⟩
      show Go ev__law_take [some (stt ns p v), some (.int L), none, none] _
      simp only [ev__law_take, e_cst, e_nil, e_yes, e_var, e_fv, e_mv, e_cons, e_dfr, e_op, e_tup, e_lst, e_tr, e_notT, e_andT, e_orT, e_andV, e_orV, e_notV, e_opq, e_if, e_call, e_callM, e_chain, e_src, e_rng, e_lc, g_nx, g_retN, g_brk, g_cnt, g_seq, g_drop, g_ret, g_asg, g_if, g_for, g_app, g_set, kk_ok, kS_ok, kQ_nx, kQ_rt, kQ_bk, kQ_ct, kk_ex, kS_ex, kQ_ex, g_raise, e_isi, g_asgT, e_grd, g_try, g_tryAs, g_appT, e_chainN, lkQ_1, lkQ_2, noX_rt, noX_nx, noX_bk, noX_ct, hdQ_0, hdQ_s, tryQ_ex, tryQ_rt, tryQ_nx, tryQ_bk, tryQ_ct, tasQ_ex, tasQ_rt, tasQ_nx, tasQ_bk, tasQ_ct, has_some, sl_0, sl_s, st_0, st_s, v_add, v_sub, v_neg, v_lt, v_le, v_gt, v_ge, v_eqi, v_nei, v_is, v_isNot, v_len, v_lenT, v_abs, v_int, v_item, v_itemT, v_list, v_max, v_min, v_repr, blD_bl, truD_bl, truD_lst, isF_int, isF_bl, isF_non, isF_tup, isF_str, isF_lf, isF_lk, isF_lo, isF_ll, at_0, at_1, at_2, ix_0, ix_1, ix_2, cap_i, cap_t, noL_i, noL_n, noL_b, noL_t, ck_0, ck_s, lk_0, lk_1, lk_2, lk_3, lk_4, ln_0, ln_1, ln_2, ln_3, ln_4, own_o, own_l, own_f, its_o, its_l, its_f, lend_o, lend_i, lend_b, lend_n, lend_s, lend_t, cap_k, cap_f, lend_l, lend_f, sh_o, sh_l, sh_f, sh_k, Bool.or_true, Bool.true_or, Bool.or_false, Bool.false_or, intD, isLst, lstO, List.set_cons_zero, List.set_cons_succ, bind_S, ty_i, ty_b, ty_s, ty_t, ty_l, ty_n, is_ii, is_ib, is_is, is_it, is_il, is_bi, is_bb, is_bs, is_bt, is_bl, is_si, is_sb, is_ss, is_st, is_sl, is_ti, is_tb, is_ts, is_tt, is_tl, is_li, is_lb, is_ls, is_lt, is_ll, is_ni, is_nb, is_ns, is_nt, is_nl, v_eqS, v_neS, v_inS, v_notInS, truD_n, truD_t, cap_s, cap_n, cap_b, noL_s, its_t, own_t, own_s, its_s, sv_n, sv_i, sv_s, sv_b, isStr_s, isNon_n, isNon_i, isNon_s, isNon_t, isNon_l, v_tup, forL_0, kL_nx, kL_ct, kL_bk, kL_rt, kL_ex, tg_n, tg_t, tg_0, tg_s, wp_0, wp_s, bk_0, bk_s, rd_0, rd_s, sb_a, sb_l, si_a, si_l, hd_0, out_t, out_f, argD, ite_self, List.map_cons, List.map_nil, List.append_nil, List.cons_append, List.nil_append, Bool.and_true, Bool.true_and, Bool.not_true, Bool.not_false, Bool.and_false, Bool.false_and, true_and, and_true, decide_eq_true_eq, Bool.false_eq_true, if_false, if_true, ite_true, ite_false, reduceIte, Bool.not_eq_true', Bool.true_eq_false, eq_self, v_mod hL, v_div ⟨hL, hL2⟩, ecc, ec, pw]
      rw [if_neg h]
      rw [if_pos h2]
      rfl
    · refine ⟨c % L, p + 1, v, Int.emod_nonneg _ (by omega), Int.emod_lt_of_pos _ hL, hv, fn_go rfl ?_⟩
      show Go ev__law_take [some (stt ns p v), some (.int L), none, none] _
      simp only [ev__law_take, e_cst, e_nil, e_yes, e_var, e_fv, e_mv, e_cons, e_dfr, e_op, e_tup, e_lst, e_tr, e_notT, e_andT, e_orT, e_andV, e_orV, e_notV, e_opq, e_if, e_call, e_callM, e_chain, e_src, e_rng, e_lc, g_nx, g_retN, g_brk, g_cnt, g_seq, g_drop, g_ret, g_asg, g_if, g_for, g_app, g_set, kk_ok, kS_ok, kQ_nx, kQ_rt, kQ_bk, kQ_ct, kk_ex, kS_ex, kQ_ex, g_raise, e_isi, g_asgT, e_grd, g_try, g_tryAs, g_appT, e_chainN, lkQ_1, lkQ_2, noX_rt, noX_nx, noX_bk, noX_ct, hdQ_0, hdQ_s, tryQ_ex, tryQ_rt, tryQ_nx, tryQ_bk, tryQ_ct, tasQ_ex, tasQ_rt, tasQ_nx, tasQ_bk, tasQ_ct, has_some, sl_0, sl_s, st_0, st_s, v_add, v_sub, v_neg, v_lt, v_le, v_gt, v_ge, v_eqi, v_nei, v_is, v_isNot, v_len, v_lenT, v_abs, v_int, v_item, v_itemT, v_list, v_max, v_min, v_repr, blD_bl, truD_bl, truD_lst, isF_int, isF_bl, isF_non, isF_tup, isF_str, isF_lf, isF_lk, isF_lo, isF_ll, at_0, at_1, at_2, ix_0, ix_1, ix_2, cap_i, cap_t, noL_i, noL_n, noL_b, noL_t, ck_0, ck_s, lk_0, lk_1, lk_2, lk_3, lk_4, ln_0, ln_1, ln_2, ln_3, ln_4, own_o, own_l, own_f, its_o, its_l, its_f, lend_o, lend_i, lend_b, lend_n, lend_s, lend_t, cap_k, cap_f, lend_l, lend_f, sh_o, sh_l, sh_f, sh_k, Bool.or_true, Bool.true_or, Bool.or_false, Bool.false_or, intD, isLst, lstO, List.set_cons_zero, List.set_cons_succ, bind_S, ty_i, ty_b, ty_s, ty_t, ty_l, ty_n, is_ii, is_ib, is_is, is_it, is_il, is_bi, is_bb, is_bs, is_bt, is_bl, is_si, is_sb, is_ss, is_st, is_sl, is_ti, is_tb, is_ts, is_tt, is_tl, is_li, is_lb, is_ls, is_lt, is_ll, is_ni, is_nb, is_ns, is_nt, is_nl, v_eqS, v_neS, v_inS, v_notInS, truD_n, truD_t, cap_s, cap_n, cap_b, noL_s, its_t, own_t, own_s, its_s, sv_n, sv_i, sv_s, sv_b, isStr_s, isNon_n, isNon_i, isNon_s, isNon_t, isNon_l, v_tup, forL_0, kL_nx, kL_ct, kL_bk, kL_rt, kL_ex, tg_n, tg_t, tg_0, tg_s, wp_0, wp_s, bk_0, bk_s, rd_0, rd_s, sb_a, sb_l, si_a, si_l, hd_0, out_t, out_f, argD, ite_self, List.map_cons, List.map_nil, List.append_nil, List.cons_append, List.nil_append, Bool.and_true, Bool.true_and, Bool.not_true, Bool.not_false, Bool.and_false, Bool.false_and, true_and, and_true, decide_eq_true_eq, Bool.false_eq_true, if_false, if_true, ite_true, ite_false, reduceIte, Bool.not_eq_true', Bool.true_eq_false, eq_self, v_mod hL, v_div ⟨hL, hL2⟩, ecc, ec, pw]
      rw [if_neg h]
      rw [if_neg h2]
      rfl
def mins (lo : Int) (n : Nat) : List Int := (List.range n).map fun k => lo + (k : Nat)
theorem rng2_i (i j : Int) (h : -(2 ^ 62) ≤ i ∧ i < 2 ^ 62 ∧ -(2 ^ 62) ≤ j ∧ j < 2 ^ 62) : rng2Of [.int i, .int j] = some ((mins i (j - i).toNat).map .int) := by
  show (if _ then some (upto i (j - i).toNat) else none) = _
  rw [if_pos h]
  unfold upto mins
  rw [List.map_map]; rfl
theorem rng1_i (j : Int) (h : -(2 ^ 62) ≤ j ∧ j < 2 ^ 62) : rng1Of [.int j] = some ((mins 0 j.toNat).map .int) := by
  show (if _ then some (upto 0 j.toNat) else none) = _
  rw [if_pos h]
  unfold upto mins
  rw [List.map_map]; rfl
theorem mins_len (i : Int) (n : Nat) : (mins i n).length = n := by simp [mins]
/-! numbers -/
theorem ok_isnum (v lo hi : Int) : F_is_number [.int v, .int lo, .int hi] = some (.ok (.bl (decide (lo ≤ v) && decide (v ≤ hi))), [none, none, none]) := by
  unfold F_is_number
  refine fn_go rfl ?_
  show Go ev_is_number [some (.int v), some (.int lo), some (.int hi)] _
  simp only [ev_is_number, e_cst, e_nil, e_yes, e_var, e_fv, e_mv, e_cons, e_dfr, e_op, e_tup, e_lst, e_tr, e_notT, e_andT, e_orT, e_andV, e_orV, e_notV, e_opq, e_if, e_call, e_callM, e_chain, e_src, e_rng, e_lc, g_nx, g_retN, g_brk, g_cnt, g_seq, g_drop, g_ret, g_asg, g_if, g_for, g_app, g_set, kk_ok, kS_ok, kQ_nx, kQ_rt, kQ_bk, kQ_ct, kk_ex, kS_ex, kQ_ex, g_raise, e_isi, g_asgT, e_grd, g_try, g_tryAs, g_appT, e_chainN, lkQ_1, lkQ_2, noX_rt, noX_nx, noX_bk, noX_ct, hdQ_0, hdQ_s, tryQ_ex, tryQ_rt, tryQ_nx, tryQ_bk, tryQ_ct, tasQ_ex, tasQ_rt, tasQ_nx, tasQ_bk, tasQ_ct, has_some, sl_0, sl_s, st_0, st_s, v_add, v_sub, v_neg, v_lt, v_le, v_gt, v_ge, v_eqi, v_nei, v_is, v_isNot, v_len, v_lenT, v_abs, v_int, v_item, v_itemT, v_list, v_max, v_min, v_repr, blD_bl, truD_bl, truD_lst, isF_int, isF_bl, isF_non, isF_tup, isF_str, isF_lf, isF_lk, isF_lo, isF_ll, at_0, at_1, at_2, ix_0, ix_1, ix_2, cap_i, cap_t, noL_i, noL_n, noL_b, noL_t, ck_0, ck_s, lk_0, lk_1, lk_2, lk_3, lk_4, ln_0, ln_1, ln_2, ln_3, ln_4, own_o, own_l, own_f, its_o, its_l, its_f, lend_o, lend_i, lend_b, lend_n, lend_s, lend_t, cap_k, cap_f, lend_l, lend_f, sh_o, sh_l, sh_f, sh_k, Bool.or_true, Bool.true_or, Bool.or_false, Bool.false_or, intD, isLst, lstO, List.set_cons_zero, List.set_cons_succ, bind_S, ty_i, ty_b, ty_s, ty_t, ty_l, ty_n, is_ii, is_ib, is_is, is_it, is_il, is_bi, is_bb, is_bs, is_bt, is_bl, is_si, is_sb, is_ss, is_st, is_sl, is_ti, is_tb, is_ts, is_tt, is_tl, is_li, is_lb, is_ls, is_lt, is_ll, is_ni, is_nb, is_ns, is_nt, is_nl, v_eqS, v_neS, v_inS, v_notInS, truD_n, truD_t, cap_s, cap_n, cap_b, noL_s, its_t, own_t, own_s, its_s, sv_n, sv_i, sv_s, sv_b, isStr_s, isNon_n, isNon_i, isNon_s, isNon_t, isNon_l, v_tup, forL_0, kL_nx, kL_ct, kL_bk, kL_rt, kL_ex, tg_n, tg_t, tg_0, tg_s, wp_0, wp_s, bk_0, bk_s, rd_0, rd_s, sb_a, sb_l, si_a, si_l, hd_0, out_t, out_f, argD, ite_self, List.map_cons, List.map_nil, List.append_nil, List.cons_append, List.nil_append, Bool.and_true, Bool.true_and, Bool.not_true, Bool.not_false, Bool.and_false, Bool.false_and, true_and, and_true, decide_eq_true_eq, Bool.false_eq_true, if_false, if_true, ite_true, ite_false, reduceIte, Bool.not_eq_true', Bool.true_eq_false, eq_self]
  by_cases h : lo ≤ v <;> simp only [h, e_cst, e_nil, e_yes, e_var, e_fv, e_mv, e_cons, e_dfr, e_op, e_tup, e_lst, e_tr, e_notT, e_andT, e_orT, e_andV, e_orV, e_notV, e_opq, e_if, e_call, e_callM, e_chain, e_src, e_rng, e_lc, g_nx, g_retN, g_brk, g_cnt, g_seq, g_drop, g_ret, g_asg, g_if, g_for, g_app, g_set, kk_ok, kS_ok, kQ_nx, kQ_rt, kQ_bk, kQ_ct, kk_ex, kS_ex, kQ_ex, g_raise, e_isi, g_asgT, e_grd, g_try, g_tryAs, g_appT, e_chainN, lkQ_1, lkQ_2, noX_rt, noX_nx, noX_bk, noX_ct, hdQ_0, hdQ_s, tryQ_ex, tryQ_rt, tryQ_nx, tryQ_bk, tryQ_ct, tasQ_ex, tasQ_rt, tasQ_nx, tasQ_bk, tasQ_ct, has_some, sl_0, sl_s, st_0, st_s, v_add, v_sub, v_neg, v_lt, v_le, v_gt, v_ge, v_eqi, v_nei, v_is, v_isNot, v_len, v_lenT, v_abs, v_int, v_item, v_itemT, v_list, v_max, v_min, v_repr, blD_bl, truD_bl, truD_lst, isF_int, isF_bl, isF_non, isF_tup, isF_str, isF_lf, isF_lk, isF_lo, isF_ll, at_0, at_1, at_2, ix_0, ix_1, ix_2, cap_i, cap_t, noL_i, noL_n, noL_b, noL_t, ck_0, ck_s, lk_0, lk_1, lk_2, lk_3, lk_4, ln_0, ln_1, ln_2, ln_3, ln_4, own_o, own_l, own_f, its_o, its_l, its_f, lend_o, lend_i, lend_b, lend_n, lend_s, lend_t, cap_k, cap_f, lend_l, lend_f, sh_o, sh_l, sh_f, sh_k, Bool.or_true, Bool.true_or, Bool.or_false, Bool.false_or, intD, isLst, lstO, List.set_cons_zero, List.set_cons_succ, bind_S, ty_i, ty_b, ty_s, ty_t, ty_l, ty_n, is_ii, is_ib, is_is, is_it, is_il, is_bi, is_bb, is_bs, is_bt, is_bl, is_si, is_sb, is_ss, is_st, is_sl, is_ti, is_tb, is_ts, is_tt, is_tl, is_li, is_lb, is_ls, is_lt, is_ll, is_ni, is_nb, is_ns, is_nt, is_nl, v_eqS, v_neS, v_inS, v_notInS, truD_n, truD_t, cap_s, cap_n, cap_b, noL_s, its_t, own_t, own_s, its_s, sv_n, sv_i, sv_s, sv_b, isStr_s, isNon_n, isNon_i, isNon_s, isNon_t, isNon_l, v_tup, forL_0, kL_nx, kL_ct, kL_bk, kL_rt, kL_ex, tg_n, tg_t, tg_0, tg_s, wp_0, wp_s, bk_0, bk_s, rd_0, rd_s, sb_a, sb_l, si_a, si_l, hd_0, out_t, out_f, argD, ite_self, List.map_cons, List.map_nil, List.append_nil, List.cons_append, List.nil_append, Bool.and_true, Bool.true_and, Bool.not_true, Bool.not_false, Bool.and_false, Bool.false_and, true_and, and_true, decide_eq_true_eq, Bool.false_eq_true, if_false, if_true, ite_true, ite_false, reduceIte, Bool.not_eq_true', Bool.true_eq_false, eq_self, decide_true, decide_false] <;> rfl
theorem ok_isnumB (b : Bool) (lo hi : Int) : F_is_number [.bl b, .int lo, .int hi] = some (.ok (.bl false), [none, none, none]) := by
  unfold F_is_number
  refine fn_go rfl ?_
  show Go ev_is_number [some (.bl b), some (.int lo), some (.int hi)] _
  simp only [ev_is_number, e_cst, e_nil, e_yes, e_var, e_fv, e_mv, e_cons, e_dfr, e_op, e_tup, e_lst, e_tr, e_notT, e_andT, e_orT, e_andV, e_orV, e_notV, e_opq, e_if, e_call, e_callM, e_chain, e_src, e_rng, e_lc, g_nx, g_retN, g_brk, g_cnt, g_seq, g_drop, g_ret, g_asg, g_if, g_for, g_app, g_set, kk_ok, kS_ok, kQ_nx, kQ_rt, kQ_bk, kQ_ct, kk_ex, kS_ex, kQ_ex, g_raise, e_isi, g_asgT, e_grd, g_try, g_tryAs, g_appT, e_chainN, lkQ_1, lkQ_2, noX_rt, noX_nx, noX_bk, noX_ct, hdQ_0, hdQ_s, tryQ_ex, tryQ_rt, tryQ_nx, tryQ_bk, tryQ_ct, tasQ_ex, tasQ_rt, tasQ_nx, tasQ_bk, tasQ_ct, has_some, sl_0, sl_s, st_0, st_s, v_add, v_sub, v_neg, v_lt, v_le, v_gt, v_ge, v_eqi, v_nei, v_is, v_isNot, v_len, v_lenT, v_abs, v_int, v_item, v_itemT, v_list, v_max, v_min, v_repr, blD_bl, truD_bl, truD_lst, isF_int, isF_bl, isF_non, isF_tup, isF_str, isF_lf, isF_lk, isF_lo, isF_ll, at_0, at_1, at_2, ix_0, ix_1, ix_2, cap_i, cap_t, noL_i, noL_n, noL_b, noL_t, ck_0, ck_s, lk_0, lk_1, lk_2, lk_3, lk_4, ln_0, ln_1, ln_2, ln_3, ln_4, own_o, own_l, own_f, its_o, its_l, its_f, lend_o, lend_i, lend_b, lend_n, lend_s, lend_t, cap_k, cap_f, lend_l, lend_f, sh_o, sh_l, sh_f, sh_k, Bool.or_true, Bool.true_or, Bool.or_false, Bool.false_or, intD, isLst, lstO, List.set_cons_zero, List.set_cons_succ, bind_S, ty_i, ty_b, ty_s, ty_t, ty_l, ty_n, is_ii, is_ib, is_is, is_it, is_il, is_bi, is_bb, is_bs, is_bt, is_bl, is_si, is_sb, is_ss, is_st, is_sl, is_ti, is_tb, is_ts, is_tt, is_tl, is_li, is_lb, is_ls, is_lt, is_ll, is_ni, is_nb, is_ns, is_nt, is_nl, v_eqS, v_neS, v_inS, v_notInS, truD_n, truD_t, cap_s, cap_n, cap_b, noL_s, its_t, own_t, own_s, its_s, sv_n, sv_i, sv_s, sv_b, isStr_s, isNon_n, isNon_i, isNon_s, isNon_t, isNon_l, v_tup, forL_0, kL_nx, kL_ct, kL_bk, kL_rt, kL_ex, tg_n, tg_t, tg_0, tg_s, wp_0, wp_s, bk_0, bk_s, rd_0, rd_s, sb_a, sb_l, si_a, si_l, hd_0, out_t, out_f, argD, ite_self, List.map_cons, List.map_nil, List.append_nil, List.cons_append, List.nil_append, Bool.and_true, Bool.true_and, Bool.not_true, Bool.not_false, Bool.and_false, Bool.false_and, true_and, and_true, decide_eq_true_eq, Bool.false_eq_true, if_false, if_true, ite_true, ite_false, reduceIte, Bool.not_eq_true', Bool.true_eq_false, eq_self]
  rfl
theorem ok_chk (v : Int) : F_checked_number [.int v, .int 0, .int 1000000] = some (if 0 ≤ v ∧ v ≤ 1000000 then .ok (.int v) else .ex ⟨1, []⟩, [none, none, none]) := by
  unfold F_checked_number
  refine fn_go rfl ?_
  show Go ev_checked_number [some (.int v), some (.int 0), some (.int 1000000)] _
  have e := ok_isnum v 0 1000000
  have s0 : gStrOf [.int 0] = some (.str (toString (0 : Int))) := v_strI (by decide)
  have s1 : gStrOf [.int 1000000] = some (.str (toString (1000000 : Int))) := v_strI (by decide)
  have t1 : gAdd [.str (Str.ofString "no number from "), .str (toString (0 : Int))] = some (.str (Str.ofString "no number from " ++ toString (0 : Int))) := v_addS (by decide +kernel)
  have t2 : gAdd [.str (Str.ofString "no number from " ++ toString (0 : Int)), .str (Str.ofString " to ")] = some (.str (Str.ofString "no number from " ++ toString (0 : Int) ++ Str.ofString " to ")) := v_addS (by decide +kernel)
  have t3 : gAdd [.str (Str.ofString "no number from " ++ toString (0 : Int) ++ Str.ofString " to "), .str (toString (1000000 : Int))] = some (.str (Str.ofString "no number from " ++ toString (0 : Int) ++ Str.ofString " to " ++ toString (1000000 : Int))) := v_addS (by decide +kernel)
  simp only [ev_checked_number, e_cst, e_nil, e_yes, e_var, e_fv, e_mv, e_cons, e_dfr, e_op, e_tup, e_lst, e_tr, e_notT, e_andT, e_orT, e_andV, e_orV, e_notV, e_opq, e_if, e_call, e_callM, e_chain, e_src, e_rng, e_lc, g_nx, g_retN, g_brk, g_cnt, g_seq, g_drop, g_ret, g_asg, g_if, g_for, g_app, g_set, kk_ok, kS_ok, kQ_nx, kQ_rt, kQ_bk, kQ_ct, kk_ex, kS_ex, kQ_ex, g_raise, e_isi, g_asgT, e_grd, g_try, g_tryAs, g_appT, e_chainN, lkQ_1, lkQ_2, noX_rt, noX_nx, noX_bk, noX_ct, hdQ_0, hdQ_s, tryQ_ex, tryQ_rt, tryQ_nx, tryQ_bk, tryQ_ct, tasQ_ex, tasQ_rt, tasQ_nx, tasQ_bk, tasQ_ct, has_some, sl_0, sl_s, st_0, st_s, v_add, v_sub, v_neg, v_lt, v_le, v_gt, v_ge, v_eqi, v_nei, v_is, v_isNot, v_len, v_lenT, v_abs, v_int, v_item, v_itemT, v_list, v_max, v_min, v_repr, blD_bl, truD_bl, truD_lst, isF_int, isF_bl, isF_non, isF_tup, isF_str, isF_lf, isF_lk, isF_lo, isF_ll, at_0, at_1, at_2, ix_0, ix_1, ix_2, cap_i, cap_t, noL_i, noL_n, noL_b, noL_t, ck_0, ck_s, lk_0, lk_1, lk_2, lk_3, lk_4, ln_0, ln_1, ln_2, ln_3, ln_4, own_o, own_l, own_f, its_o, its_l, its_f, lend_o, lend_i, lend_b, lend_n, lend_s, lend_t, cap_k, cap_f, lend_l, lend_f, sh_o, sh_l, sh_f, sh_k, Bool.or_true, Bool.true_or, Bool.or_false, Bool.false_or, intD, isLst, lstO, List.set_cons_zero, List.set_cons_succ, bind_S, ty_i, ty_b, ty_s, ty_t, ty_l, ty_n, is_ii, is_ib, is_is, is_it, is_il, is_bi, is_bb, is_bs, is_bt, is_bl, is_si, is_sb, is_ss, is_st, is_sl, is_ti, is_tb, is_ts, is_tt, is_tl, is_li, is_lb, is_ls, is_lt, is_ll, is_ni, is_nb, is_ns, is_nt, is_nl, v_eqS, v_neS, v_inS, v_notInS, truD_n, truD_t, cap_s, cap_n, cap_b, noL_s, its_t, own_t, own_s, its_s, sv_n, sv_i, sv_s, sv_b, isStr_s, isNon_n, isNon_i, isNon_s, isNon_t, isNon_l, v_tup, forL_0, kL_nx, kL_ct, kL_bk, kL_rt, kL_ex, tg_n, tg_t, tg_0, tg_s, wp_0, wp_s, bk_0, bk_s, rd_0, rd_s, sb_a, sb_l, si_a, si_l, hd_0, out_t, out_f, argD, ite_self, List.map_cons, List.map_nil, List.append_nil, List.cons_append, List.nil_append, Bool.and_true, Bool.true_and, Bool.not_true, Bool.not_false, Bool.and_false, Bool.false_and, true_and, and_true, decide_eq_true_eq, Bool.false_eq_true, if_false, if_true, ite_true, ite_false, reduceIte, Bool.not_eq_true', Bool.true_eq_false, eq_self, e]
  by_cases h1 : 0 ≤ v <;> by_cases h2 : v ≤ 1000000 <;> simp only [h1, h2, e_cst, e_nil, e_yes, e_var, e_fv, e_mv, e_cons, e_dfr, e_op, e_tup, e_lst, e_tr, e_notT, e_andT, e_orT, e_andV, e_orV, e_notV, e_opq, e_if, e_call, e_callM, e_chain, e_src, e_rng, e_lc, g_nx, g_retN, g_brk, g_cnt, g_seq, g_drop, g_ret, g_asg, g_if, g_for, g_app, g_set, kk_ok, kS_ok, kQ_nx, kQ_rt, kQ_bk, kQ_ct, kk_ex, kS_ex, kQ_ex, g_raise, e_isi, g_asgT, e_grd, g_try, g_tryAs, g_appT, e_chainN, lkQ_1, lkQ_2, noX_rt, noX_nx, noX_bk, noX_ct, hdQ_0, hdQ_s, tryQ_ex, tryQ_rt, tryQ_nx, tryQ_bk, tryQ_ct, tasQ_ex, tasQ_rt, tasQ_nx, tasQ_bk, tasQ_ct, has_some, sl_0, sl_s, st_0, st_s, v_add, v_sub, v_neg, v_lt, v_le, v_gt, v_ge, v_eqi, v_nei, v_is, v_isNot, v_len, v_lenT, v_abs, v_int, v_item, v_itemT, v_list, v_max, v_min, v_repr, blD_bl, truD_bl, truD_lst, isF_int, isF_bl, isF_non, isF_tup, isF_str, isF_lf, isF_lk, isF_lo, isF_ll, at_0, at_1, at_2, ix_0, ix_1, ix_2, cap_i, cap_t, noL_i, noL_n, noL_b, noL_t, ck_0, ck_s, lk_0, lk_1, lk_2, lk_3, lk_4, ln_0, ln_1, ln_2, ln_3, ln_4, own_o, own_l, own_f, its_o, its_l, its_f, lend_o, lend_i, lend_b, lend_n, lend_s, lend_t, cap_k, cap_f, lend_l, lend_f, sh_o, sh_l, sh_f, sh_k, Bool.or_true, Bool.true_or, Bool.or_false, Bool.false_or, intD, isLst, lstO, List.set_cons_zero, List.set_cons_succ, bind_S, ty_i, ty_b, ty_s, ty_t, ty_l, ty_n, is_ii, is_ib, is_is, is_it, is_il, is_bi, is_bb, is_bs, is_bt, is_bl, is_si, is_sb, is_ss, is_st, is_sl, is_ti, is_tb, is_ts, is_tt, is_tl, is_li, is_lb, is_ls, is_lt, is_ll, is_ni, is_nb, is_ns, is_nt, is_nl, v_eqS, v_neS, v_inS, v_notInS, truD_n, truD_t, cap_s, cap_n, cap_b, noL_s, its_t, own_t, own_s, its_s, sv_n, sv_i, sv_s, sv_b, isStr_s, isNon_n, isNon_i, isNon_s, isNon_t, isNon_l, v_tup, forL_0, kL_nx, kL_ct, kL_bk, kL_rt, kL_ex, tg_n, tg_t, tg_0, tg_s, wp_0, wp_s, bk_0, bk_s, rd_0, rd_s, sb_a, sb_l, si_a, si_l, hd_0, out_t, out_f, argD, ite_self, List.map_cons, List.map_nil, List.append_nil, List.cons_append, List.nil_append, Bool.and_true, Bool.true_and, Bool.not_true, Bool.not_false, Bool.and_false, Bool.false_and, true_and, and_true, decide_eq_true_eq, Bool.false_eq_true, if_false, if_true, ite_true, ite_false, reduceIte, Bool.not_eq_true', Bool.true_eq_false, eq_self, decide_true, decide_false, s0, s1, t1, t2, t3] <;> rfl
def dig (c : Nat) : Bool := decide (48 ≤ c) && decide (c ≤ 57)
theorem in_dg (c : Nat) : inStr ⟨#[c]⟩ (Str.ofString "0123456789") = dig c := by
  have e : (Str.ofString "0123456789").cps.toList = [48, 49, 50, 51, 52, 53, 54, 55, 56, 57] := by decide +kernel
  show decide (c ∈ (Str.ofString "0123456789").cps.toList) = _
  rw [e, Bool.eq_iff_iff]
  simp [dig]
  omega
def sg (c : Nat) : D := .str ⟨#[c]⟩
theorem signs_S (l : List Nat) : signs (S l) = l.map sg := rfl
def val (l : List Nat) : Int := (NumText.digitsVal l : Nat)
def okZ (l : List Nat) : Bool := decide (1 ≤ l.length) && decide (l.length ≤ 7) && l.all dig && !(decide (1 < l.length) && decide (l.head? = some 48))
def readL (l : List Nat) : Option Int := if okZ l = true then (if val l ≤ 1000000 then some (val l) else none) else none
theorem int_l {l : List Nat} (h : l.all dig = true) (h1 : 1 ≤ l.length) (h2 : l.length ≤ 7) : gIntOf [.str (S l)] = some (.int (val l)) := by
  show (if (S l).length ≤ 640 then (PySem.intText? (S l)).map (fun n => D.int n) else none) = _
  rw [if_pos (by rw [S_len]; omega), int_S (by exact h) (by intro e; rw [e] at h1; simp at h1) (by omega)]
  rfl
theorem val_nn (l : List Nat) : 0 ≤ val l := Int.natCast_nonneg _
theorem len_S {l : List Nat} (h : l.length ≤ 1000000) : gLen [.str (S l)] = some (.int l.length) := by
  rw [v_lenS (by rw [S_len]; omega), S_len]
theorem item_S {c : Nat} {r : List Nat} (h : (c :: r).length ≤ 1000000) : gItem [.str (S (c :: r)), .int 0] = some (sg c) := by
  show (if (S (c :: r)).length ≤ sizeLine then (L2.atI (c :: r) 0).map (fun c => D.str ⟨#[c]⟩) else none) = _
  rw [if_pos (by rw [S_len, sizeLine_eq]; omega)]
  unfold L2.atI L2.ixN
  rw [if_pos (by omega), if_pos (by simp <;> omega)]
  rfl
theorem sg_0 (c : Nat) : gEq [sg c, .str (Str.ofString "0")] = some (.bl (decide (c = 48))) := by
  have e : Str.ofString "0" = S [48] := by decide +kernel
  rw [e]
  show gEq [.str (S [c]), .str (S [48])] = _
  rw [v_eqS]
  congr 2
  rw [Bool.eq_iff_iff, decide_eq_true_eq, decide_eq_true_eq]
  exact ⟨fun h => by have := S_inj h; simpa using this, fun h => by rw [h]⟩
def oi : Option Int → D
  | none => .non
  | some i => .int i
theorem any_dig (l : List Nat) : ((0 : Int) < (((l.filter fun c => !dig c).map sg).length : Int)) = (l.all dig = false) := by
  rw [List.length_map]
  have e : l.all dig = false ↔ ∃ c ∈ l, dig c = false := by simp
  refine propext ?_
  rw [e]
  constructor
  · intro h
    obtain ⟨q, hq⟩ := List.exists_mem_of_length_pos (l := l.filter fun c => !dig c) (by omega)
    rw [List.mem_filter] at hq
    exact ⟨q, hq.1, by simpa using hq.2⟩
  · rintro ⟨q, h1, h2⟩
    have : q ∈ l.filter fun c => !dig c := List.mem_filter.mpr ⟨h1, by simpa using h2⟩
    have := List.length_pos_of_mem this
    omega
theorem cap_sg (c : Nat) : cap (sg c) = sg c := rfl
theorem ok_number (l : List Nat) (hl : l.length ≤ 1000000) : F__law_number [.str (S l)] = some (.ok (oi (readL l)), [none]) := by
  unfold F__law_number
  refine fn_go rfl ?_
  show Go ev__law_number [some (.str (S l)), none] _
  have el := len_S hl
  unfold ev__law_number
  have bad : okZ l = false → oi (readL l) = .non := fun h => by unfold readL; rw [h]; rfl
  by_cases h1 : 1 ≤ l.length
  · by_cases h7 : l.length ≤ 7
    · have i1 : (1 : Int) ≤ (l.length : Int) := by omega
      have i7 : (l.length : Int) ≤ 7 := by omega
      cases hd : l.all dig with
      | false =>
        have hb := bad (by unfold okZ; rw [hd]; simp)
        simp only [e_cst, e_nil, e_yes, e_var, e_fv, e_mv, e_cons, e_dfr, e_op, e_tup, e_lst, e_tr, e_notT, e_andT, e_orT, e_andV, e_orV, e_notV, e_opq, e_if, e_call, e_callM, e_chain, e_src, e_rng, e_lc, g_nx, g_retN, g_brk, g_cnt, g_seq, g_drop, g_ret, g_asg, g_if, g_for, g_app, g_set, kk_ok, kS_ok, kQ_nx, kQ_rt, kQ_bk, kQ_ct, kk_ex, kS_ex, kQ_ex, g_raise, e_isi, g_asgT, e_grd, g_try, g_tryAs, g_appT, e_chainN, lkQ_1, lkQ_2, noX_rt, noX_nx, noX_bk, noX_ct, hdQ_0, hdQ_s, tryQ_ex, tryQ_rt, tryQ_nx, tryQ_bk, tryQ_ct, tasQ_ex, tasQ_rt, tasQ_nx, tasQ_bk, tasQ_ct, has_some, sl_0, sl_s, st_0, st_s, v_add, v_sub, v_neg, v_lt, v_le, v_gt, v_ge, v_eqi, v_nei, v_is, v_isNot, v_len, v_lenT, v_abs, v_int, v_item, v_itemT, v_list, v_max, v_min, v_repr, blD_bl, truD_bl, truD_lst, isF_int, isF_bl, isF_non, isF_tup, isF_str, isF_lf, isF_lk, isF_lo, isF_ll, at_0, at_1, at_2, ix_0, ix_1, ix_2, cap_i, cap_t, noL_i, noL_n, noL_b, noL_t, ck_0, ck_s, lk_0, lk_1, lk_2, lk_3, lk_4, ln_0, ln_1, ln_2, ln_3, ln_4, own_o, own_l, own_f, its_o, its_l, its_f, lend_o, lend_i, lend_b, lend_n, lend_s, lend_t, cap_k, cap_f, lend_l, lend_f, sh_o, sh_l, sh_f, sh_k, Bool.or_true, Bool.true_or, Bool.or_false, Bool.false_or, intD, isLst, lstO, List.set_cons_zero, List.set_cons_succ, bind_S, ty_i, ty_b, ty_s, ty_t, ty_l, ty_n, is_ii, is_ib, is_is, is_it, is_il, is_bi, is_bb, is_bs, is_bt, is_bl, is_si, is_sb, is_ss, is_st, is_sl, is_ti, is_tb, is_ts, is_tt, is_tl, is_li, is_lb, is_ls, is_lt, is_ll, is_ni, is_nb, is_ns, is_nt, is_nl, v_eqS, v_neS, v_inS, v_notInS, truD_n, truD_t, cap_s, cap_n, cap_b, noL_s, its_t, own_t, own_s, its_s, sv_n, sv_i, sv_s, sv_b, isStr_s, isNon_n, isNon_i, isNon_s, isNon_t, isNon_l, v_tup, forL_0, kL_nx, kL_ct, kL_bk, kL_rt, kL_ex, tg_n, tg_t, tg_0, tg_s, wp_0, wp_s, bk_0, bk_s, rd_0, rd_s, sb_a, sb_l, si_a, si_l, hd_0, out_t, out_f, argD, ite_self, List.map_cons, List.map_nil, List.append_nil, List.cons_append, List.nil_append, Bool.and_true, Bool.true_and, Bool.not_true, Bool.not_false, Bool.and_false, Bool.false_and, true_and, and_true, decide_eq_true_eq, Bool.false_eq_true, if_false, if_true, ite_true, ite_false, reduceIte, Bool.not_eq_true', Bool.true_eq_false, eq_self, el, i1, i7, decide_true, signs_S]
        refine has_cmpF (fun c => !dig c) (fun c : Nat => c) sg cap_sg l hl (fun c _ => ?_) ?_
        · simp only [ct__law_number_0, ce__law_number_1, sg, e_cst, e_nil, e_yes, e_var, e_fv, e_mv, e_cons, e_dfr, e_op, e_tup, e_lst, e_tr, e_notT, e_andT, e_orT, e_andV, e_orV, e_notV, e_opq, e_if, e_call, e_callM, e_chain, e_src, e_rng, e_lc, g_nx, g_retN, g_brk, g_cnt, g_seq, g_drop, g_ret, g_asg, g_if, g_for, g_app, g_set, kk_ok, kS_ok, kQ_nx, kQ_rt, kQ_bk, kQ_ct, kk_ex, kS_ex, kQ_ex, g_raise, e_isi, g_asgT, e_grd, g_try, g_tryAs, g_appT, e_chainN, lkQ_1, lkQ_2, noX_rt, noX_nx, noX_bk, noX_ct, hdQ_0, hdQ_s, tryQ_ex, tryQ_rt, tryQ_nx, tryQ_bk, tryQ_ct, tasQ_ex, tasQ_rt, tasQ_nx, tasQ_bk, tasQ_ct, has_some, sl_0, sl_s, st_0, st_s, v_add, v_sub, v_neg, v_lt, v_le, v_gt, v_ge, v_eqi, v_nei, v_is, v_isNot, v_len, v_lenT, v_abs, v_int, v_item, v_itemT, v_list, v_max, v_min, v_repr, blD_bl, truD_bl, truD_lst, isF_int, isF_bl, isF_non, isF_tup, isF_str, isF_lf, isF_lk, isF_lo, isF_ll, at_0, at_1, at_2, ix_0, ix_1, ix_2, cap_i, cap_t, noL_i, noL_n, noL_b, noL_t, ck_0, ck_s, lk_0, lk_1, lk_2, lk_3, lk_4, ln_0, ln_1, ln_2, ln_3, ln_4, own_o, own_l, own_f, its_o, its_l, its_f, lend_o, lend_i, lend_b, lend_n, lend_s, lend_t, cap_k, cap_f, lend_l, lend_f, sh_o, sh_l, sh_f, sh_k, Bool.or_true, Bool.true_or, Bool.or_false, Bool.false_or, intD, isLst, lstO, List.set_cons_zero, List.set_cons_succ, bind_S, ty_i, ty_b, ty_s, ty_t, ty_l, ty_n, is_ii, is_ib, is_is, is_it, is_il, is_bi, is_bb, is_bs, is_bt, is_bl, is_si, is_sb, is_ss, is_st, is_sl, is_ti, is_tb, is_ts, is_tt, is_tl, is_li, is_lb, is_ls, is_lt, is_ll, is_ni, is_nb, is_ns, is_nt, is_nl, v_eqS, v_neS, v_inS, v_notInS, truD_n, truD_t, cap_s, cap_n, cap_b, noL_s, its_t, own_t, own_s, its_s, sv_n, sv_i, sv_s, sv_b, isStr_s, isNon_n, isNon_i, isNon_s, isNon_t, isNon_l, v_tup, forL_0, kL_nx, kL_ct, kL_bk, kL_rt, kL_ex, tg_n, tg_t, tg_0, tg_s, wp_0, wp_s, bk_0, bk_s, rd_0, rd_s, sb_a, sb_l, si_a, si_l, hd_0, out_t, out_f, argD, ite_self, List.map_cons, List.map_nil, List.append_nil, List.cons_append, List.nil_append, Bool.and_true, Bool.true_and, Bool.not_true, Bool.not_false, Bool.and_false, Bool.false_and, true_and, and_true, decide_eq_true_eq, Bool.false_eq_true, if_false, if_true, ite_true, ite_false, reduceIte, Bool.not_eq_true', Bool.true_eq_false, eq_self, in_dg]
          try (cases dig c <;> simp [e_cst, e_nil, e_yes, e_var, e_fv, e_mv, e_cons, e_dfr, e_op, e_tup, e_lst, e_tr, e_notT, e_andT, e_orT, e_andV, e_orV, e_notV, e_opq, e_if, e_call, e_callM, e_chain, e_src, e_rng, e_lc, g_nx, g_retN, g_brk, g_cnt, g_seq, g_drop, g_ret, g_asg, g_if, g_for, g_app, g_set, kk_ok, kS_ok, kQ_nx, kQ_rt, kQ_bk, kQ_ct, kk_ex, kS_ex, kQ_ex, g_raise, e_isi, g_asgT, e_grd, g_try, g_tryAs, g_appT, e_chainN, lkQ_1, lkQ_2, noX_rt, noX_nx, noX_bk, noX_ct, hdQ_0, hdQ_s, tryQ_ex, tryQ_rt, tryQ_nx, tryQ_bk, tryQ_ct, tasQ_ex, tasQ_rt, tasQ_nx, tasQ_bk, tasQ_ct, has_some, sl_0, sl_s, st_0, st_s, v_add, v_sub, v_neg, v_lt, v_le, v_gt, v_ge, v_eqi, v_nei, v_is, v_isNot, v_len, v_lenT, v_abs, v_int, v_item, v_itemT, v_list, v_max, v_min, v_repr, blD_bl, truD_bl, truD_lst, isF_int, isF_bl, isF_non, isF_tup, isF_str, isF_lf, isF_lk, isF_lo, isF_ll, at_0, at_1, at_2, ix_0, ix_1, ix_2, cap_i, cap_t, noL_i, noL_n, noL_b, noL_t, ck_0, ck_s, lk_0, lk_1, lk_2, lk_3, lk_4, ln_0, ln_1, ln_2, ln_3, ln_4, own_o, own_l, own_f, its_o, its_l, its_f, lend_o, lend_i, lend_b, lend_n, lend_s, lend_t, cap_k, cap_f, lend_l, lend_f, sh_o, sh_l, sh_f, sh_k, Bool.or_true, Bool.true_or, Bool.or_false, Bool.false_or, intD, isLst, lstO, List.set_cons_zero, List.set_cons_succ, bind_S, ty_i, ty_b, ty_s, ty_t, ty_l, ty_n, is_ii, is_ib, is_is, is_it, is_il, is_bi, is_bb, is_bs, is_bt, is_bl, is_si, is_sb, is_ss, is_st, is_sl, is_ti, is_tb, is_ts, is_tt, is_tl, is_li, is_lb, is_ls, is_lt, is_ll, is_ni, is_nb, is_ns, is_nt, is_nl, v_eqS, v_neS, v_inS, v_notInS, truD_n, truD_t, cap_s, cap_n, cap_b, noL_s, its_t, own_t, own_s, its_s, sv_n, sv_i, sv_s, sv_b, isStr_s, isNon_n, isNon_i, isNon_s, isNon_t, isNon_l, v_tup, forL_0, kL_nx, kL_ct, kL_bk, kL_rt, kL_ex, tg_n, tg_t, tg_0, tg_s, wp_0, wp_s, bk_0, bk_s, rd_0, rd_s, sb_a, sb_l, si_a, si_l, hd_0, out_t, out_f, argD, ite_self, List.map_cons, List.map_nil, List.append_nil, List.cons_append, List.nil_append, Bool.and_true, Bool.true_and, Bool.not_true, Bool.not_false, Bool.and_false, Bool.false_and, true_and, and_true, decide_eq_true_eq, Bool.false_eq_true, if_false, if_true, ite_true, ite_false, reduceIte, Bool.not_eq_true', Bool.true_eq_false, eq_self])
        · simp only [e_cst, e_nil, e_yes, e_var, e_fv, e_mv, e_cons, e_dfr, e_op, e_tup, e_lst, e_tr, e_notT, e_andT, e_orT, e_andV, e_orV, e_notV, e_opq, e_if, e_call, e_callM, e_chain, e_src, e_rng, e_lc, g_nx, g_retN, g_brk, g_cnt, g_seq, g_drop, g_ret, g_asg, g_if, g_for, g_app, g_set, kk_ok, kS_ok, kQ_nx, kQ_rt, kQ_bk, kQ_ct, kk_ex, kS_ex, kQ_ex, g_raise, e_isi, g_asgT, e_grd, g_try, g_tryAs, g_appT, e_chainN, lkQ_1, lkQ_2, noX_rt, noX_nx, noX_bk, noX_ct, hdQ_0, hdQ_s, tryQ_ex, tryQ_rt, tryQ_nx, tryQ_bk, tryQ_ct, tasQ_ex, tasQ_rt, tasQ_nx, tasQ_bk, tasQ_ct, has_some, sl_0, sl_s, st_0, st_s, v_add, v_sub, v_neg, v_lt, v_le, v_gt, v_ge, v_eqi, v_nei, v_is, v_isNot, v_len, v_lenT, v_abs, v_int, v_item, v_itemT, v_list, v_max, v_min, v_repr, blD_bl, truD_bl, truD_lst, isF_int, isF_bl, isF_non, isF_tup, isF_str, isF_lf, isF_lk, isF_lo, isF_ll, at_0, at_1, at_2, ix_0, ix_1, ix_2, cap_i, cap_t, noL_i, noL_n, noL_b, noL_t, ck_0, ck_s, lk_0, lk_1, lk_2, lk_3, lk_4, ln_0, ln_1, ln_2, ln_3, ln_4, own_o, own_l, own_f, its_o, its_l, its_f, lend_o, lend_i, lend_b, lend_n, lend_s, lend_t, cap_k, cap_f, lend_l, lend_f, sh_o, sh_l, sh_f, sh_k, Bool.or_true, Bool.true_or, Bool.or_false, Bool.false_or, intD, isLst, lstO, List.set_cons_zero, List.set_cons_succ, bind_S, ty_i, ty_b, ty_s, ty_t, ty_l, ty_n, is_ii, is_ib, is_is, is_it, is_il, is_bi, is_bb, is_bs, is_bt, is_bl, is_si, is_sb, is_ss, is_st, is_sl, is_ti, is_tb, is_ts, is_tt, is_tl, is_li, is_lb, is_ls, is_lt, is_ll, is_ni, is_nb, is_ns, is_nt, is_nl, v_eqS, v_neS, v_inS, v_notInS, truD_n, truD_t, cap_s, cap_n, cap_b, noL_s, its_t, own_t, own_s, its_s, sv_n, sv_i, sv_s, sv_b, isStr_s, isNon_n, isNon_i, isNon_s, isNon_t, isNon_l, v_tup, forL_0, kL_nx, kL_ct, kL_bk, kL_rt, kL_ex, tg_n, tg_t, tg_0, tg_s, wp_0, wp_s, bk_0, bk_s, rd_0, rd_s, sb_a, sb_l, si_a, si_l, hd_0, out_t, out_f, argD, ite_self, List.map_cons, List.map_nil, List.append_nil, List.cons_append, List.nil_append, Bool.and_true, Bool.true_and, Bool.not_true, Bool.not_false, Bool.and_false, Bool.false_and, true_and, and_true, decide_eq_true_eq, Bool.false_eq_true, if_false, if_true, ite_true, ite_false, reduceIte, Bool.not_eq_true', Bool.true_eq_false, eq_self, List.map_id', any_dig, hd, hb]
          rfl
      | true =>
        have ei := int_l hd h1 h7
        obtain ⟨c, r, rfl⟩ : ∃ c r, l = c :: r := by
          cases l with
          | nil => simp at h1
          | cons c r => exact ⟨c, r, rfl⟩
        have e0 := item_S hl
        simp only [e_cst, e_nil, e_yes, e_var, e_fv, e_mv, e_cons, e_dfr, e_op, e_tup, e_lst, e_tr, e_notT, e_andT, e_orT, e_andV, e_orV, e_notV, e_opq, e_if, e_call, e_callM, e_chain, e_src, e_rng, e_lc, g_nx, g_retN, g_brk, g_cnt, g_seq, g_drop, g_ret, g_asg, g_if, g_for, g_app, g_set, kk_ok, kS_ok, kQ_nx, kQ_rt, kQ_bk, kQ_ct, kk_ex, kS_ex, kQ_ex, g_raise, e_isi, g_asgT, e_grd, g_try, g_tryAs, g_appT, e_chainN, lkQ_1, lkQ_2, noX_rt, noX_nx, noX_bk, noX_ct, hdQ_0, hdQ_s, tryQ_ex, tryQ_rt, tryQ_nx, tryQ_bk, tryQ_ct, tasQ_ex, tasQ_rt, tasQ_nx, tasQ_bk, tasQ_ct, has_some, sl_0, sl_s, st_0, st_s, v_add, v_sub, v_neg, v_lt, v_le, v_gt, v_ge, v_eqi, v_nei, v_is, v_isNot, v_len, v_lenT, v_abs, v_int, v_item, v_itemT, v_list, v_max, v_min, v_repr, blD_bl, truD_bl, truD_lst, isF_int, isF_bl, isF_non, isF_tup, isF_str, isF_lf, isF_lk, isF_lo, isF_ll, at_0, at_1, at_2, ix_0, ix_1, ix_2, cap_i, cap_t, noL_i, noL_n, noL_b, noL_t, ck_0, ck_s, lk_0, lk_1, lk_2, lk_3, lk_4, ln_0, ln_1, ln_2, ln_3, ln_4, own_o, own_l, own_f, its_o, its_l, its_f, lend_o, lend_i, lend_b, lend_n, lend_s, lend_t, cap_k, cap_f, lend_l, lend_f, sh_o, sh_l, sh_f, sh_k, Bool.or_true, Bool.true_or, Bool.or_false, Bool.false_or, intD, isLst, lstO, List.set_cons_zero, List.set_cons_succ, bind_S, ty_i, ty_b, ty_s, ty_t, ty_l, ty_n, is_ii, is_ib, is_is, is_it, is_il, is_bi, is_bb, is_bs, is_bt, is_bl, is_si, is_sb, is_ss, is_st, is_sl, is_ti, is_tb, is_ts, is_tt, is_tl, is_li, is_lb, is_ls, is_lt, is_ll, is_ni, is_nb, is_ns, is_nt, is_nl, v_eqS, v_neS, v_inS, v_notInS, truD_n, truD_t, cap_s, cap_n, cap_b, noL_s, its_t, own_t, own_s, its_s, sv_n, sv_i, sv_s, sv_b, isStr_s, isNon_n, isNon_i, isNon_s, isNon_t, isNon_l, v_tup, forL_0, kL_nx, kL_ct, kL_bk, kL_rt, kL_ex, tg_n, tg_t, tg_0, tg_s, wp_0, wp_s, bk_0, bk_s, rd_0, rd_s, sb_a, sb_l, si_a, si_l, hd_0, out_t, out_f, argD, ite_self, List.map_cons, List.map_nil, List.append_nil, List.cons_append, List.nil_append, Bool.and_true, Bool.true_and, Bool.not_true, Bool.not_false, Bool.and_false, Bool.false_and, true_and, and_true, decide_eq_true_eq, Bool.false_eq_true, if_false, if_true, ite_true, ite_false, reduceIte, Bool.not_eq_true', Bool.true_eq_false, eq_self, el, i1, i7, decide_true, signs_S]
        refine has_cmpF (fun c => !dig c) (fun c : Nat => c) sg cap_sg (c :: r) hl (fun c _ => ?_) ?_
        · simp only [ct__law_number_0, ce__law_number_1, sg, e_cst, e_nil, e_yes, e_var, e_fv, e_mv, e_cons, e_dfr, e_op, e_tup, e_lst, e_tr, e_notT, e_andT, e_orT, e_andV, e_orV, e_notV, e_opq, e_if, e_call, e_callM, e_chain, e_src, e_rng, e_lc, g_nx, g_retN, g_brk, g_cnt, g_seq, g_drop, g_ret, g_asg, g_if, g_for, g_app, g_set, kk_ok, kS_ok, kQ_nx, kQ_rt, kQ_bk, kQ_ct, kk_ex, kS_ex, kQ_ex, g_raise, e_isi, g_asgT, e_grd, g_try, g_tryAs, g_appT, e_chainN, lkQ_1, lkQ_2, noX_rt, noX_nx, noX_bk, noX_ct, hdQ_0, hdQ_s, tryQ_ex, tryQ_rt, tryQ_nx, tryQ_bk, tryQ_ct, tasQ_ex, tasQ_rt, tasQ_nx, tasQ_bk, tasQ_ct, has_some, sl_0, sl_s, st_0, st_s, v_add, v_sub, v_neg, v_lt, v_le, v_gt, v_ge, v_eqi, v_nei, v_is, v_isNot, v_len, v_lenT, v_abs, v_int, v_item, v_itemT, v_list, v_max, v_min, v_repr, blD_bl, truD_bl, truD_lst, isF_int, isF_bl, isF_non, isF_tup, isF_str, isF_lf, isF_lk, isF_lo, isF_ll, at_0, at_1, at_2, ix_0, ix_1, ix_2, cap_i, cap_t, noL_i, noL_n, noL_b, noL_t, ck_0, ck_s, lk_0, lk_1, lk_2, lk_3, lk_4, ln_0, ln_1, ln_2, ln_3, ln_4, own_o, own_l, own_f, its_o, its_l, its_f, lend_o, lend_i, lend_b, lend_n, lend_s, lend_t, cap_k, cap_f, lend_l, lend_f, sh_o, sh_l, sh_f, sh_k, Bool.or_true, Bool.true_or, Bool.or_false, Bool.false_or, intD, isLst, lstO, List.set_cons_zero, List.set_cons_succ, bind_S, ty_i, ty_b, ty_s, ty_t, ty_l, ty_n, is_ii, is_ib, is_is, is_it, is_il, is_bi, is_bb, is_bs, is_bt, is_bl, is_si, is_sb, is_ss, is_st, is_sl, is_ti, is_tb, is_ts, is_tt, is_tl, is_li, is_lb, is_ls, is_lt, is_ll, is_ni, is_nb, is_ns, is_nt, is_nl, v_eqS, v_neS, v_inS, v_notInS, truD_n, truD_t, cap_s, cap_n, cap_b, noL_s, its_t, own_t, own_s, its_s, sv_n, sv_i, sv_s, sv_b, isStr_s, isNon_n, isNon_i, isNon_s, isNon_t, isNon_l, v_tup, forL_0, kL_nx, kL_ct, kL_bk, kL_rt, kL_ex, tg_n, tg_t, tg_0, tg_s, wp_0, wp_s, bk_0, bk_s, rd_0, rd_s, sb_a, sb_l, si_a, si_l, hd_0, out_t, out_f, argD, ite_self, List.map_cons, List.map_nil, List.append_nil, List.cons_append, List.nil_append, Bool.and_true, Bool.true_and, Bool.not_true, Bool.not_false, Bool.and_false, Bool.false_and, true_and, and_true, decide_eq_true_eq, Bool.false_eq_true, if_false, if_true, ite_true, ite_false, reduceIte, Bool.not_eq_true', Bool.true_eq_false, eq_self, in_dg]
          try (cases dig c <;> simp [e_cst, e_nil, e_yes, e_var, e_fv, e_mv, e_cons, e_dfr, e_op, e_tup, e_lst, e_tr, e_notT, e_andT, e_orT, e_andV, e_orV, e_notV, e_opq, e_if, e_call, e_callM, e_chain, e_src, e_rng, e_lc, g_nx, g_retN, g_brk, g_cnt, g_seq, g_drop, g_ret, g_asg, g_if, g_for, g_app, g_set, kk_ok, kS_ok, kQ_nx, kQ_rt, kQ_bk, kQ_ct, kk_ex, kS_ex, kQ_ex, g_raise, e_isi, g_asgT, e_grd, g_try, g_tryAs, g_appT, e_chainN, lkQ_1, lkQ_2, noX_rt, noX_nx, noX_bk, noX_ct, hdQ_0, hdQ_s, tryQ_ex, tryQ_rt, tryQ_nx, tryQ_bk, tryQ_ct, tasQ_ex, tasQ_rt, tasQ_nx, tasQ_bk, tasQ_ct, has_some, sl_0, sl_s, st_0, st_s, v_add, v_sub, v_neg, v_lt, v_le, v_gt, v_ge, v_eqi, v_nei, v_is, v_isNot, v_len, v_lenT, v_abs, v_int, v_item, v_itemT, v_list, v_max, v_min, v_repr, blD_bl, truD_bl, truD_lst, isF_int, isF_bl, isF_non, isF_tup, isF_str, isF_lf, isF_lk, isF_lo, isF_ll, at_0, at_1, at_2, ix_0, ix_1, ix_2, cap_i, cap_t, noL_i, noL_n, noL_b, noL_t, ck_0, ck_s, lk_0, lk_1, lk_2, lk_3, lk_4, ln_0, ln_1, ln_2, ln_3, ln_4, own_o, own_l, own_f, its_o, its_l, its_f, lend_o, lend_i, lend_b, lend_n, lend_s, lend_t, cap_k, cap_f, lend_l, lend_f, sh_o, sh_l, sh_f, sh_k, Bool.or_true, Bool.true_or, Bool.or_false, Bool.false_or, intD, isLst, lstO, List.set_cons_zero, List.set_cons_succ, bind_S, ty_i, ty_b, ty_s, ty_t, ty_l, ty_n, is_ii, is_ib, is_is, is_it, is_il, is_bi, is_bb, is_bs, is_bt, is_bl, is_si, is_sb, is_ss, is_st, is_sl, is_ti, is_tb, is_ts, is_tt, is_tl, is_li, is_lb, is_ls, is_lt, is_ll, is_ni, is_nb, is_ns, is_nt, is_nl, v_eqS, v_neS, v_inS, v_notInS, truD_n, truD_t, cap_s, cap_n, cap_b, noL_s, its_t, own_t, own_s, its_s, sv_n, sv_i, sv_s, sv_b, isStr_s, isNon_n, isNon_i, isNon_s, isNon_t, isNon_l, v_tup, forL_0, kL_nx, kL_ct, kL_bk, kL_rt, kL_ex, tg_n, tg_t, tg_0, tg_s, wp_0, wp_s, bk_0, bk_s, rd_0, rd_s, sb_a, sb_l, si_a, si_l, hd_0, out_t, out_f, argD, ite_self, List.map_cons, List.map_nil, List.append_nil, List.cons_append, List.nil_append, Bool.and_true, Bool.true_and, Bool.not_true, Bool.not_false, Bool.and_false, Bool.false_and, true_and, and_true, decide_eq_true_eq, Bool.false_eq_true, if_false, if_true, ite_true, ite_false, reduceIte, Bool.not_eq_true', Bool.true_eq_false, eq_self])
        · simp only [e_cst, e_nil, e_yes, e_var, e_fv, e_mv, e_cons, e_dfr, e_op, e_tup, e_lst, e_tr, e_notT, e_andT, e_orT, e_andV, e_orV, e_notV, e_opq, e_if, e_call, e_callM, e_chain, e_src, e_rng, e_lc, g_nx, g_retN, g_brk, g_cnt, g_seq, g_drop, g_ret, g_asg, g_if, g_for, g_app, g_set, kk_ok, kS_ok, kQ_nx, kQ_rt, kQ_bk, kQ_ct, kk_ex, kS_ex, kQ_ex, g_raise, e_isi, g_asgT, e_grd, g_try, g_tryAs, g_appT, e_chainN, lkQ_1, lkQ_2, noX_rt, noX_nx, noX_bk, noX_ct, hdQ_0, hdQ_s, tryQ_ex, tryQ_rt, tryQ_nx, tryQ_bk, tryQ_ct, tasQ_ex, tasQ_rt, tasQ_nx, tasQ_bk, tasQ_ct, has_some, sl_0, sl_s, st_0, st_s, v_add, v_sub, v_neg, v_lt, v_le, v_gt, v_ge, v_eqi, v_nei, v_is, v_isNot, v_len, v_lenT, v_abs, v_int, v_item, v_itemT, v_list, v_max, v_min, v_repr, blD_bl, truD_bl, truD_lst, isF_int, isF_bl, isF_non, isF_tup, isF_str, isF_lf, isF_lk, isF_lo, isF_ll, at_0, at_1, at_2, ix_0, ix_1, ix_2, cap_i, cap_t, noL_i, noL_n, noL_b, noL_t, ck_0, ck_s, lk_0, lk_1, lk_2, lk_3, lk_4, ln_0, ln_1, ln_2, ln_3, ln_4, own_o, own_l, own_f, its_o, its_l, its_f, lend_o, lend_i, lend_b, lend_n, lend_s, lend_t, cap_k, cap_f, lend_l, lend_f, sh_o, sh_l, sh_f, sh_k, Bool.or_true, Bool.true_or, Bool.or_false, Bool.false_or, intD, isLst, lstO, List.set_cons_zero, List.set_cons_succ, bind_S, ty_i, ty_b, ty_s, ty_t, ty_l, ty_n, is_ii, is_ib, is_is, is_it, is_il, is_bi, is_bb, is_bs, is_bt, is_bl, is_si, is_sb, is_ss, is_st, is_sl, is_ti, is_tb, is_ts, is_tt, is_tl, is_li, is_lb, is_ls, is_lt, is_ll, is_ni, is_nb, is_ns, is_nt, is_nl, v_eqS, v_neS, v_inS, v_notInS, truD_n, truD_t, cap_s, cap_n, cap_b, noL_s, its_t, own_t, own_s, its_s, sv_n, sv_i, sv_s, sv_b, isStr_s, isNon_n, isNon_i, isNon_s, isNon_t, isNon_l, v_tup, forL_0, kL_nx, kL_ct, kL_bk, kL_rt, kL_ex, tg_n, tg_t, tg_0, tg_s, wp_0, wp_s, bk_0, bk_s, rd_0, rd_s, sb_a, sb_l, si_a, si_l, hd_0, out_t, out_f, argD, ite_self, List.map_cons, List.map_nil, List.append_nil, List.cons_append, List.nil_append, Bool.and_true, Bool.true_and, Bool.not_true, Bool.not_false, Bool.and_false, Bool.false_and, true_and, and_true, decide_eq_true_eq, Bool.false_eq_true, if_false, if_true, ite_true, ite_false, reduceIte, Bool.not_eq_true', Bool.true_eq_false, eq_self, List.map_id', any_dig, hd, el, e0, sg_0, ei]
          have o : okZ (c :: r) = !(decide (1 < (c :: r).length) && decide (c = 48)) := by
            unfold okZ; rw [hd, decide_eq_true h1, decide_eq_true h7]; simp only [List.head?_cons, Bool.true_and, Option.some.injEq]
          by_cases h2 : (1 : Int) < ((c :: r).length : Int)
          · have h2' : 1 < (c :: r).length := by omega
            by_cases h3 : c = 48
            · have hb := bad (by rw [o, decide_eq_true h2', decide_eq_true h3]; rfl)
              subst h3
              simp only [h2, e_cst, e_nil, e_yes, e_var, e_fv, e_mv, e_cons, e_dfr, e_op, e_tup, e_lst, e_tr, e_notT, e_andT, e_orT, e_andV, e_orV, e_notV, e_opq, e_if, e_call, e_callM, e_chain, e_src, e_rng, e_lc, g_nx, g_retN, g_brk, g_cnt, g_seq, g_drop, g_ret, g_asg, g_if, g_for, g_app, g_set, kk_ok, kS_ok, kQ_nx, kQ_rt, kQ_bk, kQ_ct, kk_ex, kS_ex, kQ_ex, g_raise, e_isi, g_asgT, e_grd, g_try, g_tryAs, g_appT, e_chainN, lkQ_1, lkQ_2, noX_rt, noX_nx, noX_bk, noX_ct, hdQ_0, hdQ_s, tryQ_ex, tryQ_rt, tryQ_nx, tryQ_bk, tryQ_ct, tasQ_ex, tasQ_rt, tasQ_nx, tasQ_bk, tasQ_ct, has_some, sl_0, sl_s, st_0, st_s, v_add, v_sub, v_neg, v_lt, v_le, v_gt, v_ge, v_eqi, v_nei, v_is, v_isNot, v_len, v_lenT, v_abs, v_int, v_item, v_itemT, v_list, v_max, v_min, v_repr, blD_bl, truD_bl, truD_lst, isF_int, isF_bl, isF_non, isF_tup, isF_str, isF_lf, isF_lk, isF_lo, isF_ll, at_0, at_1, at_2, ix_0, ix_1, ix_2, cap_i, cap_t, noL_i, noL_n, noL_b, noL_t, ck_0, ck_s, lk_0, lk_1, lk_2, lk_3, lk_4, ln_0, ln_1, ln_2, ln_3, ln_4, own_o, own_l, own_f, its_o, its_l, its_f, lend_o, lend_i, lend_b, lend_n, lend_s, lend_t, cap_k, cap_f, lend_l, lend_f, sh_o, sh_l, sh_f, sh_k, Bool.or_true, Bool.true_or, Bool.or_false, Bool.false_or, intD, isLst, lstO, List.set_cons_zero, List.set_cons_succ, bind_S, ty_i, ty_b, ty_s, ty_t, ty_l, ty_n, is_ii, is_ib, is_is, is_it, is_il, is_bi, is_bb, is_bs, is_bt, is_bl, is_si, is_sb, is_ss, is_st, is_sl, is_ti, is_tb, is_ts, is_tt, is_tl, is_li, is_lb, is_ls, is_lt, is_ll, is_ni, is_nb, is_ns, is_nt, is_nl, v_eqS, v_neS, v_inS, v_notInS, truD_n, truD_t, cap_s, cap_n, cap_b, noL_s, its_t, own_t, own_s, its_s, sv_n, sv_i, sv_s, sv_b, isStr_s, isNon_n, isNon_i, isNon_s, isNon_t, isNon_l, v_tup, forL_0, kL_nx, kL_ct, kL_bk, kL_rt, kL_ex, tg_n, tg_t, tg_0, tg_s, wp_0, wp_s, bk_0, bk_s, rd_0, rd_s, sb_a, sb_l, si_a, si_l, hd_0, out_t, out_f, argD, ite_self, List.map_cons, List.map_nil, List.append_nil, List.cons_append, List.nil_append, Bool.and_true, Bool.true_and, Bool.not_true, Bool.not_false, Bool.and_false, Bool.false_and, true_and, and_true, decide_eq_true_eq, Bool.false_eq_true, if_false, if_true, ite_true, ite_false, reduceIte, Bool.not_eq_true', Bool.true_eq_false, eq_self, hb]
              rfl
            · have hk : okZ (c :: r) = true := by rw [o]; simp [h3]
              unfold readL
              simp only [h2, h3, e_cst, e_nil, e_yes, e_var, e_fv, e_mv, e_cons, e_dfr, e_op, e_tup, e_lst, e_tr, e_notT, e_andT, e_orT, e_andV, e_orV, e_notV, e_opq, e_if, e_call, e_callM, e_chain, e_src, e_rng, e_lc, g_nx, g_retN, g_brk, g_cnt, g_seq, g_drop, g_ret, g_asg, g_if, g_for, g_app, g_set, kk_ok, kS_ok, kQ_nx, kQ_rt, kQ_bk, kQ_ct, kk_ex, kS_ex, kQ_ex, g_raise, e_isi, g_asgT, e_grd, g_try, g_tryAs, g_appT, e_chainN, lkQ_1, lkQ_2, noX_rt, noX_nx, noX_bk, noX_ct, hdQ_0, hdQ_s, tryQ_ex, tryQ_rt, tryQ_nx, tryQ_bk, tryQ_ct, tasQ_ex, tasQ_rt, tasQ_nx, tasQ_bk, tasQ_ct, has_some, sl_0, sl_s, st_0, st_s, v_add, v_sub, v_neg, v_lt, v_le, v_gt, v_ge, v_eqi, v_nei, v_is, v_isNot, v_len, v_lenT, v_abs, v_int, v_item, v_itemT, v_list, v_max, v_min, v_repr, blD_bl, truD_bl, truD_lst, isF_int, isF_bl, isF_non, isF_tup, isF_str, isF_lf, isF_lk, isF_lo, isF_ll, at_0, at_1, at_2, ix_0, ix_1, ix_2, cap_i, cap_t, noL_i, noL_n, noL_b, noL_t, ck_0, ck_s, lk_0, lk_1, lk_2, lk_3, lk_4, ln_0, ln_1, ln_2, ln_3, ln_4, own_o, own_l, own_f, its_o, its_l, its_f, lend_o, lend_i, lend_b, lend_n, lend_s, lend_t, cap_k, cap_f, lend_l, lend_f, sh_o, sh_l, sh_f, sh_k, Bool.or_true, Bool.true_or, Bool.or_false, Bool.false_or, intD, isLst, lstO, List.set_cons_zero, List.set_cons_succ, bind_S, ty_i, ty_b, ty_s, ty_t, ty_l, ty_n, is_ii, is_ib, is_is, is_it, is_il, is_bi, is_bb, is_bs, is_bt, is_bl, is_si, is_sb, is_ss, is_st, is_sl, is_ti, is_tb, is_ts, is_tt, is_tl, is_li, is_lb, is_ls, is_lt, is_ll, is_ni, is_nb, is_ns, is_nt, is_nl, v_eqS, v_neS, v_inS, v_notInS, truD_n, truD_t, cap_s, cap_n, cap_b, noL_s, its_t, own_t, own_s, its_s, sv_n, sv_i, sv_s, sv_b, isStr_s, isNon_n, isNon_i, isNon_s, isNon_t, isNon_l, v_tup, forL_0, kL_nx, kL_ct, kL_bk, kL_rt, kL_ex, tg_n, tg_t, tg_0, tg_s, wp_0, wp_s, bk_0, bk_s, rd_0, rd_s, sb_a, sb_l, si_a, si_l, hd_0, out_t, out_f, argD, ite_self, List.map_cons, List.map_nil, List.append_nil, List.cons_append, List.nil_append, Bool.and_true, Bool.true_and, Bool.not_true, Bool.not_false, Bool.and_false, Bool.false_and, true_and, and_true, decide_eq_true_eq, Bool.false_eq_true, if_false, if_true, ite_true, ite_false, reduceIte, Bool.not_eq_true', Bool.true_eq_false, eq_self, hk]
              by_cases h4 : val (c :: r) ≤ 1000000 <;> simp only [h4, e_cst, e_nil, e_yes, e_var, e_fv, e_mv, e_cons, e_dfr, e_op, e_tup, e_lst, e_tr, e_notT, e_andT, e_orT, e_andV, e_orV, e_notV, e_opq, e_if, e_call, e_callM, e_chain, e_src, e_rng, e_lc, g_nx, g_retN, g_brk, g_cnt, g_seq, g_drop, g_ret, g_asg, g_if, g_for, g_app, g_set, kk_ok, kS_ok, kQ_nx, kQ_rt, kQ_bk, kQ_ct, kk_ex, kS_ex, kQ_ex, g_raise, e_isi, g_asgT, e_grd, g_try, g_tryAs, g_appT, e_chainN, lkQ_1, lkQ_2, noX_rt, noX_nx, noX_bk, noX_ct, hdQ_0, hdQ_s, tryQ_ex, tryQ_rt, tryQ_nx, tryQ_bk, tryQ_ct, tasQ_ex, tasQ_rt, tasQ_nx, tasQ_bk, tasQ_ct, has_some, sl_0, sl_s, st_0, st_s, v_add, v_sub, v_neg, v_lt, v_le, v_gt, v_ge, v_eqi, v_nei, v_is, v_isNot, v_len, v_lenT, v_abs, v_int, v_item, v_itemT, v_list, v_max, v_min, v_repr, blD_bl, truD_bl, truD_lst, isF_int, isF_bl, isF_non, isF_tup, isF_str, isF_lf, isF_lk, isF_lo, isF_ll, at_0, at_1, at_2, ix_0, ix_1, ix_2, cap_i, cap_t, noL_i, noL_n, noL_b, noL_t, ck_0, ck_s, lk_0, lk_1, lk_2, lk_3, lk_4, ln_0, ln_1, ln_2, ln_3, ln_4, own_o, own_l, own_f, its_o, its_l, its_f, lend_o, lend_i, lend_b, lend_n, lend_s, lend_t, cap_k, cap_f, lend_l, lend_f, sh_o, sh_l, sh_f, sh_k, Bool.or_true, Bool.true_or, Bool.or_false, Bool.false_or, intD, isLst, lstO, List.set_cons_zero, List.set_cons_succ, bind_S, ty_i, ty_b, ty_s, ty_t, ty_l, ty_n, is_ii, is_ib, is_is, is_it, is_il, is_bi, is_bb, is_bs, is_bt, is_bl, is_si, is_sb, is_ss, is_st, is_sl, is_ti, is_tb, is_ts, is_tt, is_tl, is_li, is_lb, is_ls, is_lt, is_ll, is_ni, is_nb, is_ns, is_nt, is_nl, v_eqS, v_neS, v_inS, v_notInS, truD_n, truD_t, cap_s, cap_n, cap_b, noL_s, its_t, own_t, own_s, its_s, sv_n, sv_i, sv_s, sv_b, isStr_s, isNon_n, isNon_i, isNon_s, isNon_t, isNon_l, v_tup, forL_0, kL_nx, kL_ct, kL_bk, kL_rt, kL_ex, tg_n, tg_t, tg_0, tg_s, wp_0, wp_s, bk_0, bk_s, rd_0, rd_s, sb_a, sb_l, si_a, si_l, hd_0, out_t, out_f, argD, ite_self, List.map_cons, List.map_nil, List.append_nil, List.cons_append, List.nil_append, Bool.and_true, Bool.true_and, Bool.not_true, Bool.not_false, Bool.and_false, Bool.false_and, true_and, and_true, decide_eq_true_eq, Bool.false_eq_true, if_false, if_true, ite_true, ite_false, reduceIte, Bool.not_eq_true', Bool.true_eq_false, eq_self] <;> rfl
          · have h2' : ¬ 1 < (c :: r).length := by omega
            have hk : okZ (c :: r) = true := by rw [o, decide_eq_false h2']; rfl
            unfold readL
            simp only [h2, e_cst, e_nil, e_yes, e_var, e_fv, e_mv, e_cons, e_dfr, e_op, e_tup, e_lst, e_tr, e_notT, e_andT, e_orT, e_andV, e_orV, e_notV, e_opq, e_if, e_call, e_callM, e_chain, e_src, e_rng, e_lc, g_nx, g_retN, g_brk, g_cnt, g_seq, g_drop, g_ret, g_asg, g_if, g_for, g_app, g_set, kk_ok, kS_ok, kQ_nx, kQ_rt, kQ_bk, kQ_ct, kk_ex, kS_ex, kQ_ex, g_raise, e_isi, g_asgT, e_grd, g_try, g_tryAs, g_appT, e_chainN, lkQ_1, lkQ_2, noX_rt, noX_nx, noX_bk, noX_ct, hdQ_0, hdQ_s, tryQ_ex, tryQ_rt, tryQ_nx, tryQ_bk, tryQ_ct, tasQ_ex, tasQ_rt, tasQ_nx, tasQ_bk, tasQ_ct, has_some, sl_0, sl_s, st_0, st_s, v_add, v_sub, v_neg, v_lt, v_le, v_gt, v_ge, v_eqi, v_nei, v_is, v_isNot, v_len, v_lenT, v_abs, v_int, v_item, v_itemT, v_list, v_max, v_min, v_repr, blD_bl, truD_bl, truD_lst, isF_int, isF_bl, isF_non, isF_tup, isF_str, isF_lf, isF_lk, isF_lo, isF_ll, at_0, at_1, at_2, ix_0, ix_1, ix_2, cap_i, cap_t, noL_i, noL_n, noL_b, noL_t, ck_0, ck_s, lk_0, lk_1, lk_2, lk_3, lk_4, ln_0, ln_1, ln_2, ln_3, ln_4, own_o, own_l, own_f, its_o, its_l, its_f, lend_o, lend_i, lend_b, lend_n, lend_s, lend_t, cap_k, cap_f, lend_l, lend_f, sh_o, sh_l, sh_f, sh_k, Bool.or_true, Bool.true_or, Bool.or_false, Bool.false_or, intD, isLst, lstO, List.set_cons_zero, List.set_cons_succ, bind_S, ty_i, ty_b, ty_s, ty_t, ty_l, ty_n, is_ii, is_ib, is_is, is_it, is_il, is_bi, is_bb, is_bs, is_bt, is_bl, is_si, is_sb, is_ss, is_st, is_sl, is_ti, is_tb, is_ts, is_tt, is_tl, is_li, is_lb, is_ls, is_lt, is_ll, is_ni, is_nb, is_ns, is_nt, is_nl, v_eqS, v_neS, v_inS, v_notInS, truD_n, truD_t, cap_s, cap_n, cap_b, noL_s, its_t, own_t, own_s, its_s, sv_n, sv_i, sv_s, sv_b, isStr_s, isNon_n, isNon_i, isNon_s, isNon_t, isNon_l, v_tup, forL_0, kL_nx, kL_ct, kL_bk, kL_rt, kL_ex, tg_n, tg_t, tg_0, tg_s, wp_0, wp_s, bk_0, bk_s, rd_0, rd_s, sb_a, sb_l, si_a, si_l, hd_0, out_t, out_f, argD, ite_self, List.map_cons, List.map_nil, List.append_nil, List.cons_append, List.nil_append, Bool.and_true, Bool.true_and, Bool.not_true, Bool.not_false, Bool.and_false, Bool.false_and, true_and, and_true, decide_eq_true_eq, Bool.false_eq_true, if_false, if_true, ite_true, ite_false, reduceIte, Bool.not_eq_true', Bool.true_eq_false, eq_self, hk]
            by_cases h4 : val (c :: r) ≤ 1000000 <;> simp only [h4, e_cst, e_nil, e_yes, e_var, e_fv, e_mv, e_cons, e_dfr, e_op, e_tup, e_lst, e_tr, e_notT, e_andT, e_orT, e_andV, e_orV, e_notV, e_opq, e_if, e_call, e_callM, e_chain, e_src, e_rng, e_lc, g_nx, g_retN, g_brk, g_cnt, g_seq, g_drop, g_ret, g_asg, g_if, g_for, g_app, g_set, kk_ok, kS_ok, kQ_nx, kQ_rt, kQ_bk, kQ_ct, kk_ex, kS_ex, kQ_ex, g_raise, e_isi, g_asgT, e_grd, g_try, g_tryAs, g_appT, e_chainN, lkQ_1, lkQ_2, noX_rt, noX_nx, noX_bk, noX_ct, hdQ_0, hdQ_s, tryQ_ex, tryQ_rt, tryQ_nx, tryQ_bk, tryQ_ct, tasQ_ex, tasQ_rt, tasQ_nx, tasQ_bk, tasQ_ct, has_some, sl_0, sl_s, st_0, st_s, v_add, v_sub, v_neg, v_lt, v_le, v_gt, v_ge, v_eqi, v_nei, v_is, v_isNot, v_len, v_lenT, v_abs, v_int, v_item, v_itemT, v_list, v_max, v_min, v_repr, blD_bl, truD_bl, truD_lst, isF_int, isF_bl, isF_non, isF_tup, isF_str, isF_lf, isF_lk, isF_lo, isF_ll, at_0, at_1, at_2, ix_0, ix_1, ix_2, cap_i, cap_t, noL_i, noL_n, noL_b, noL_t, ck_0, ck_s, lk_0, lk_1, lk_2, lk_3, lk_4, ln_0, ln_1, ln_2, ln_3, ln_4, own_o, own_l, own_f, its_o, its_l, its_f, lend_o, lend_i, lend_b, lend_n, lend_s, lend_t, cap_k, cap_f, lend_l, lend_f, sh_o, sh_l, sh_f, sh_k, Bool.or_true, Bool.true_or, Bool.or_false, Bool.false_or, intD, isLst, lstO, List.set_cons_zero, List.set_cons_succ, bind_S, ty_i, ty_b, ty_s, ty_t, ty_l, ty_n, is_ii, is_ib, is_is, is_it, is_il, is_bi, is_bb, is_bs, is_bt, is_bl, is_si, is_sb, is_ss, is_st, is_sl, is_ti, is_tb, is_ts, is_tt, is_tl, is_li, is_lb, is_ls, is_lt, is_ll, is_ni, is_nb, is_ns, is_nt, is_nl, v_eqS, v_neS, v_inS, v_notInS, truD_n, truD_t, cap_s, cap_n, cap_b, noL_s, its_t, own_t, own_s, its_s, sv_n, sv_i, sv_s, sv_b, isStr_s, isNon_n, isNon_i, isNon_s, isNon_t, isNon_l, v_tup, forL_0, kL_nx, kL_ct, kL_bk, kL_rt, kL_ex, tg_n, tg_t, tg_0, tg_s, wp_0, wp_s, bk_0, bk_s, rd_0, rd_s, sb_a, sb_l, si_a, si_l, hd_0, out_t, out_f, argD, ite_self, List.map_cons, List.map_nil, List.append_nil, List.cons_append, List.nil_append, Bool.and_true, Bool.true_and, Bool.not_true, Bool.not_false, Bool.and_false, Bool.false_and, true_and, and_true, decide_eq_true_eq, Bool.false_eq_true, if_false, if_true, ite_true, ite_false, reduceIte, Bool.not_eq_true', Bool.true_eq_false, eq_self] <;> rfl
    · have hb := bad (by unfold okZ; simp [h7])
      have i1 : (1 : Int) ≤ (l.length : Int) := by omega
      have i7 : ¬ (l.length : Int) ≤ 7 := by omega
      simp only [e_cst, e_nil, e_yes, e_var, e_fv, e_mv, e_cons, e_dfr, e_op, e_tup, e_lst, e_tr, e_notT, e_andT, e_orT, e_andV, e_orV, e_notV, e_opq, e_if, e_call, e_callM, e_chain, e_src, e_rng, e_lc, g_nx, g_retN, g_brk, g_cnt, g_seq, g_drop, g_ret, g_asg, g_if, g_for, g_app, g_set, kk_ok, kS_ok, kQ_nx, kQ_rt, kQ_bk, kQ_ct, kk_ex, kS_ex, kQ_ex, g_raise, e_isi, g_asgT, e_grd, g_try, g_tryAs, g_appT, e_chainN, lkQ_1, lkQ_2, noX_rt, noX_nx, noX_bk, noX_ct, hdQ_0, hdQ_s, tryQ_ex, tryQ_rt, tryQ_nx, tryQ_bk, tryQ_ct, tasQ_ex, tasQ_rt, tasQ_nx, tasQ_bk, tasQ_ct, has_some, sl_0, sl_s, st_0, st_s, v_add, v_sub, v_neg, v_lt, v_le, v_gt, v_ge, v_eqi, v_nei, v_is, v_isNot, v_len, v_lenT, v_abs, v_int, v_item, v_itemT, v_list, v_max, v_min, v_repr, blD_bl, truD_bl, truD_lst, isF_int, isF_bl, isF_non, isF_tup, isF_str, isF_lf, isF_lk, isF_lo, isF_ll, at_0, at_1, at_2, ix_0, ix_1, ix_2, cap_i, cap_t, noL_i, noL_n, noL_b, noL_t, ck_0, ck_s, lk_0, lk_1, lk_2, lk_3, lk_4, ln_0, ln_1, ln_2, ln_3, ln_4, own_o, own_l, own_f, its_o, its_l, its_f, lend_o, lend_i, lend_b, lend_n, lend_s, lend_t, cap_k, cap_f, lend_l, lend_f, sh_o, sh_l, sh_f, sh_k, Bool.or_true, Bool.true_or, Bool.or_false, Bool.false_or, intD, isLst, lstO, List.set_cons_zero, List.set_cons_succ, bind_S, ty_i, ty_b, ty_s, ty_t, ty_l, ty_n, is_ii, is_ib, is_is, is_it, is_il, is_bi, is_bb, is_bs, is_bt, is_bl, is_si, is_sb, is_ss, is_st, is_sl, is_ti, is_tb, is_ts, is_tt, is_tl, is_li, is_lb, is_ls, is_lt, is_ll, is_ni, is_nb, is_ns, is_nt, is_nl, v_eqS, v_neS, v_inS, v_notInS, truD_n, truD_t, cap_s, cap_n, cap_b, noL_s, its_t, own_t, own_s, its_s, sv_n, sv_i, sv_s, sv_b, isStr_s, isNon_n, isNon_i, isNon_s, isNon_t, isNon_l, v_tup, forL_0, kL_nx, kL_ct, kL_bk, kL_rt, kL_ex, tg_n, tg_t, tg_0, tg_s, wp_0, wp_s, bk_0, bk_s, rd_0, rd_s, sb_a, sb_l, si_a, si_l, hd_0, out_t, out_f, argD, ite_self, List.map_cons, List.map_nil, List.append_nil, List.cons_append, List.nil_append, Bool.and_true, Bool.true_and, Bool.not_true, Bool.not_false, Bool.and_false, Bool.false_and, true_and, and_true, decide_eq_true_eq, Bool.false_eq_true, if_false, if_true, ite_true, ite_false, reduceIte, Bool.not_eq_true', Bool.true_eq_false, eq_self, el, i1, i7, decide_true, decide_false, hb]
      rfl
  · have hb := bad (by unfold okZ; simp [h1])
    have i1 : ¬ (1 : Int) ≤ (l.length : Int) := by omega
    simp only [e_cst, e_nil, e_yes, e_var, e_fv, e_mv, e_cons, e_dfr, e_op, e_tup, e_lst, e_tr, e_notT, e_andT, e_orT, e_andV, e_orV, e_notV, e_opq, e_if, e_call, e_callM, e_chain, e_src, e_rng, e_lc, g_nx, g_retN, g_brk, g_cnt, g_seq, g_drop, g_ret, g_asg, g_if, g_for, g_app, g_set, kk_ok, kS_ok, kQ_nx, kQ_rt, kQ_bk, kQ_ct, kk_ex, kS_ex, kQ_ex, g_raise, e_isi, g_asgT, e_grd, g_try, g_tryAs, g_appT, e_chainN, lkQ_1, lkQ_2, noX_rt, noX_nx, noX_bk, noX_ct, hdQ_0, hdQ_s, tryQ_ex, tryQ_rt, tryQ_nx, tryQ_bk, tryQ_ct, tasQ_ex, tasQ_rt, tasQ_nx, tasQ_bk, tasQ_ct, has_some, sl_0, sl_s, st_0, st_s, v_add, v_sub, v_neg, v_lt, v_le, v_gt, v_ge, v_eqi, v_nei, v_is, v_isNot, v_len, v_lenT, v_abs, v_int, v_item, v_itemT, v_list, v_max, v_min, v_repr, blD_bl, truD_bl, truD_lst, isF_int, isF_bl, isF_non, isF_tup, isF_str, isF_lf, isF_lk, isF_lo, isF_ll, at_0, at_1, at_2, ix_0, ix_1, ix_2, cap_i, cap_t, noL_i, noL_n, noL_b, noL_t, ck_0, ck_s, lk_0, lk_1, lk_2, lk_3, lk_4, ln_0, ln_1, ln_2, ln_3, ln_4, own_o, own_l, own_f, its_o, its_l, its_f, lend_o, lend_i, lend_b, lend_n, lend_s, lend_t, cap_k, cap_f, lend_l, lend_f, sh_o, sh_l, sh_f, sh_k, Bool.or_true, Bool.true_or, Bool.or_false, Bool.false_or, intD, isLst, lstO, List.set_cons_zero, List.set_cons_succ, bind_S, ty_i, ty_b, ty_s, ty_t, ty_l, ty_n, is_ii, is_ib, is_is, is_it, is_il, is_bi, is_bb, is_bs, is_bt, is_bl, is_si, is_sb, is_ss, is_st, is_sl, is_ti, is_tb, is_ts, is_tt, is_tl, is_li, is_lb, is_ls, is_lt, is_ll, is_ni, is_nb, is_ns, is_nt, is_nl, v_eqS, v_neS, v_inS, v_notInS, truD_n, truD_t, cap_s, cap_n, cap_b, noL_s, its_t, own_t, own_s, its_s, sv_n, sv_i, sv_s, sv_b, isStr_s, isNon_n, isNon_i, isNon_s, isNon_t, isNon_l, v_tup, forL_0, kL_nx, kL_ct, kL_bk, kL_rt, kL_ex, tg_n, tg_t, tg_0, tg_s, wp_0, wp_s, bk_0, bk_s, rd_0, rd_s, sb_a, sb_l, si_a, si_l, hd_0, out_t, out_f, argD, ite_self, List.map_cons, List.map_nil, List.append_nil, List.cons_append, List.nil_append, Bool.and_true, Bool.true_and, Bool.not_true, Bool.not_false, Bool.and_false, Bool.false_and, true_and, and_true, decide_eq_true_eq, Bool.false_eq_true, if_false, if_true, ite_true, ite_false, reduceIte, Bool.not_eq_true', Bool.true_eq_false, eq_self, el, i1, decide_true, decide_false, hb]
    rfl
theorem lp_dig {s0 s1 s2 : Option D} {K : ES → Prop} : ∀ (l : List Nat) (a : Option D), (∀ a, K (if l.all dig = true then (.nx, [s0, s1, s2, a]) else (.ex ⟨1, []⟩, [s0, s1, s2, a]))) → has (evForL (tgName 3) bd_read_number_0 (l.map sg) [s0, s1, s2, a]) K
  | [], a, h => by simp only [e_cst, e_nil, e_yes, e_var, e_fv, e_mv, e_cons, e_dfr, e_op, e_tup, e_lst, e_tr, e_notT, e_andT, e_orT, e_andV, e_orV, e_notV, e_opq, e_if, e_call, e_callM, e_chain, e_src, e_rng, e_lc, g_nx, g_retN, g_brk, g_cnt, g_seq, g_drop, g_ret, g_asg, g_if, g_for, g_app, g_set, kk_ok, kS_ok, kQ_nx, kQ_rt, kQ_bk, kQ_ct, kk_ex, kS_ex, kQ_ex, g_raise, e_isi, g_asgT, e_grd, g_try, g_tryAs, g_appT, e_chainN, lkQ_1, lkQ_2, noX_rt, noX_nx, noX_bk, noX_ct, hdQ_0, hdQ_s, tryQ_ex, tryQ_rt, tryQ_nx, tryQ_bk, tryQ_ct, tasQ_ex, tasQ_rt, tasQ_nx, tasQ_bk, tasQ_ct, has_some, sl_0, sl_s, st_0, st_s, v_add, v_sub, v_neg, v_lt, v_le, v_gt, v_ge, v_eqi, v_nei, v_is, v_isNot, v_len, v_lenT, v_abs, v_int, v_item, v_itemT, v_list, v_max, v_min, v_repr, blD_bl, truD_bl, truD_lst, isF_int, isF_bl, isF_non, isF_tup, isF_str, isF_lf, isF_lk, isF_lo, isF_ll, at_0, at_1, at_2, ix_0, ix_1, ix_2, cap_i, cap_t, noL_i, noL_n, noL_b, noL_t, ck_0, ck_s, lk_0, lk_1, lk_2, lk_3, lk_4, ln_0, ln_1, ln_2, ln_3, ln_4, own_o, own_l, own_f, its_o, its_l, its_f, lend_o, lend_i, lend_b, lend_n, lend_s, lend_t, cap_k, cap_f, lend_l, lend_f, sh_o, sh_l, sh_f, sh_k, Bool.or_true, Bool.true_or, Bool.or_false, Bool.false_or, intD, isLst, lstO, List.set_cons_zero, List.set_cons_succ, bind_S, ty_i, ty_b, ty_s, ty_t, ty_l, ty_n, is_ii, is_ib, is_is, is_it, is_il, is_bi, is_bb, is_bs, is_bt, is_bl, is_si, is_sb, is_ss, is_st, is_sl, is_ti, is_tb, is_ts, is_tt, is_tl, is_li, is_lb, is_ls, is_lt, is_ll, is_ni, is_nb, is_ns, is_nt, is_nl, v_eqS, v_neS, v_inS, v_notInS, truD_n, truD_t, cap_s, cap_n, cap_b, noL_s, its_t, own_t, own_s, its_s, sv_n, sv_i, sv_s, sv_b, isStr_s, isNon_n, isNon_i, isNon_s, isNon_t, isNon_l, v_tup, forL_0, kL_nx, kL_ct, kL_bk, kL_rt, kL_ex, tg_n, tg_t, tg_0, tg_s, wp_0, wp_s, bk_0, bk_s, rd_0, rd_s, sb_a, sb_l, si_a, si_l, hd_0, out_t, out_f, argD, ite_self, List.map_cons, List.map_nil, List.append_nil, List.cons_append, List.nil_append, Bool.and_true, Bool.true_and, Bool.not_true, Bool.not_false, Bool.and_false, Bool.false_and, true_and, and_true, decide_eq_true_eq, Bool.false_eq_true, if_false, if_true, ite_true, ite_false, reduceIte, Bool.not_eq_true', Bool.true_eq_false, eq_self]; exact h a
  | c :: r, a, h => by
    have ih := lp_dig (s0 := s0) (s1 := s1) (s2 := s2) (K := K) r (some (sg c))
    simp only [List.map_cons, forL_s, bd_read_number_0, e_cst, e_nil, e_yes, e_var, e_fv, e_mv, e_cons, e_dfr, e_op, e_tup, e_lst, e_tr, e_notT, e_andT, e_orT, e_andV, e_orV, e_notV, e_opq, e_if, e_call, e_callM, e_chain, e_src, e_rng, e_lc, g_nx, g_retN, g_brk, g_cnt, g_seq, g_drop, g_ret, g_asg, g_if, g_for, g_app, g_set, kk_ok, kS_ok, kQ_nx, kQ_rt, kQ_bk, kQ_ct, kk_ex, kS_ex, kQ_ex, g_raise, e_isi, g_asgT, e_grd, g_try, g_tryAs, g_appT, e_chainN, lkQ_1, lkQ_2, noX_rt, noX_nx, noX_bk, noX_ct, hdQ_0, hdQ_s, tryQ_ex, tryQ_rt, tryQ_nx, tryQ_bk, tryQ_ct, tasQ_ex, tasQ_rt, tasQ_nx, tasQ_bk, tasQ_ct, has_some, sl_0, sl_s, st_0, st_s, v_add, v_sub, v_neg, v_lt, v_le, v_gt, v_ge, v_eqi, v_nei, v_is, v_isNot, v_len, v_lenT, v_abs, v_int, v_item, v_itemT, v_list, v_max, v_min, v_repr, blD_bl, truD_bl, truD_lst, isF_int, isF_bl, isF_non, isF_tup, isF_str, isF_lf, isF_lk, isF_lo, isF_ll, at_0, at_1, at_2, ix_0, ix_1, ix_2, cap_i, cap_t, noL_i, noL_n, noL_b, noL_t, ck_0, ck_s, lk_0, lk_1, lk_2, lk_3, lk_4, ln_0, ln_1, ln_2, ln_3, ln_4, own_o, own_l, own_f, its_o, its_l, its_f, lend_o, lend_i, lend_b, lend_n, lend_s, lend_t, cap_k, cap_f, lend_l, lend_f, sh_o, sh_l, sh_f, sh_k, Bool.or_true, Bool.true_or, Bool.or_false, Bool.false_or, intD, isLst, lstO, List.set_cons_zero, List.set_cons_succ, bind_S, ty_i, ty_b, ty_s, ty_t, ty_l, ty_n, is_ii, is_ib, is_is, is_it, is_il, is_bi, is_bb, is_bs, is_bt, is_bl, is_si, is_sb, is_ss, is_st, is_sl, is_ti, is_tb, is_ts, is_tt, is_tl, is_li, is_lb, is_ls, is_lt, is_ll, is_ni, is_nb, is_ns, is_nt, is_nl, v_eqS, v_neS, v_inS, v_notInS, truD_n, truD_t, cap_s, cap_n, cap_b, noL_s, its_t, own_t, own_s, its_s, sv_n, sv_i, sv_s, sv_b, isStr_s, isNon_n, isNon_i, isNon_s, isNon_t, isNon_l, v_tup, forL_0, kL_nx, kL_ct, kL_bk, kL_rt, kL_ex, tg_n, tg_t, tg_0, tg_s, wp_0, wp_s, bk_0, bk_s, rd_0, rd_s, sb_a, sb_l, si_a, si_l, hd_0, out_t, out_f, argD, ite_self, List.map_cons, List.map_nil, List.append_nil, List.cons_append, List.nil_append, Bool.and_true, Bool.true_and, Bool.not_true, Bool.not_false, Bool.and_false, Bool.false_and, true_and, and_true, decide_eq_true_eq, Bool.false_eq_true, if_false, if_true, ite_true, ite_false, reduceIte, Bool.not_eq_true', Bool.true_eq_false, eq_self]
    unfold sg at ih ⊢
    simp only [e_cst, e_nil, e_yes, e_var, e_fv, e_mv, e_cons, e_dfr, e_op, e_tup, e_lst, e_tr, e_notT, e_andT, e_orT, e_andV, e_orV, e_notV, e_opq, e_if, e_call, e_callM, e_chain, e_src, e_rng, e_lc, g_nx, g_retN, g_brk, g_cnt, g_seq, g_drop, g_ret, g_asg, g_if, g_for, g_app, g_set, kk_ok, kS_ok, kQ_nx, kQ_rt, kQ_bk, kQ_ct, kk_ex, kS_ex, kQ_ex, g_raise, e_isi, g_asgT, e_grd, g_try, g_tryAs, g_appT, e_chainN, lkQ_1, lkQ_2, noX_rt, noX_nx, noX_bk, noX_ct, hdQ_0, hdQ_s, tryQ_ex, tryQ_rt, tryQ_nx, tryQ_bk, tryQ_ct, tasQ_ex, tasQ_rt, tasQ_nx, tasQ_bk, tasQ_ct, has_some, sl_0, sl_s, st_0, st_s, v_add, v_sub, v_neg, v_lt, v_le, v_gt, v_ge, v_eqi, v_nei, v_is, v_isNot, v_len, v_lenT, v_abs, v_int, v_item, v_itemT, v_list, v_max, v_min, v_repr, blD_bl, truD_bl, truD_lst, isF_int, isF_bl, isF_non, isF_tup, isF_str, isF_lf, isF_lk, isF_lo, isF_ll, at_0, at_1, at_2, ix_0, ix_1, ix_2, cap_i, cap_t, noL_i, noL_n, noL_b, noL_t, ck_0, ck_s, lk_0, lk_1, lk_2, lk_3, lk_4, ln_0, ln_1, ln_2, ln_3, ln_4, own_o, own_l, own_f, its_o, its_l, its_f, lend_o, lend_i, lend_b, lend_n, lend_s, lend_t, cap_k, cap_f, lend_l, lend_f, sh_o, sh_l, sh_f, sh_k, Bool.or_true, Bool.true_or, Bool.or_false, Bool.false_or, intD, isLst, lstO, List.set_cons_zero, List.set_cons_succ, bind_S, ty_i, ty_b, ty_s, ty_t, ty_l, ty_n, is_ii, is_ib, is_is, is_it, is_il, is_bi, is_bb, is_bs, is_bt, is_bl, is_si, is_sb, is_ss, is_st, is_sl, is_ti, is_tb, is_ts, is_tt, is_tl, is_li, is_lb, is_ls, is_lt, is_ll, is_ni, is_nb, is_ns, is_nt, is_nl, v_eqS, v_neS, v_inS, v_notInS, truD_n, truD_t, cap_s, cap_n, cap_b, noL_s, its_t, own_t, own_s, its_s, sv_n, sv_i, sv_s, sv_b, isStr_s, isNon_n, isNon_i, isNon_s, isNon_t, isNon_l, v_tup, forL_0, kL_nx, kL_ct, kL_bk, kL_rt, kL_ex, tg_n, tg_t, tg_0, tg_s, wp_0, wp_s, bk_0, bk_s, rd_0, rd_s, sb_a, sb_l, si_a, si_l, hd_0, out_t, out_f, argD, ite_self, List.map_cons, List.map_nil, List.append_nil, List.cons_append, List.nil_append, Bool.and_true, Bool.true_and, Bool.not_true, Bool.not_false, Bool.and_false, Bool.false_and, true_and, and_true, decide_eq_true_eq, Bool.false_eq_true, if_false, if_true, ite_true, ite_false, reduceIte, Bool.not_eq_true', Bool.true_eq_false, eq_self, in_dg]
    rw [List.all_cons] at h
    cases hd : dig c <;> simp only [hd, e_cst, e_nil, e_yes, e_var, e_fv, e_mv, e_cons, e_dfr, e_op, e_tup, e_lst, e_tr, e_notT, e_andT, e_orT, e_andV, e_orV, e_notV, e_opq, e_if, e_call, e_callM, e_chain, e_src, e_rng, e_lc, g_nx, g_retN, g_brk, g_cnt, g_seq, g_drop, g_ret, g_asg, g_if, g_for, g_app, g_set, kk_ok, kS_ok, kQ_nx, kQ_rt, kQ_bk, kQ_ct, kk_ex, kS_ex, kQ_ex, g_raise, e_isi, g_asgT, e_grd, g_try, g_tryAs, g_appT, e_chainN, lkQ_1, lkQ_2, noX_rt, noX_nx, noX_bk, noX_ct, hdQ_0, hdQ_s, tryQ_ex, tryQ_rt, tryQ_nx, tryQ_bk, tryQ_ct, tasQ_ex, tasQ_rt, tasQ_nx, tasQ_bk, tasQ_ct, has_some, sl_0, sl_s, st_0, st_s, v_add, v_sub, v_neg, v_lt, v_le, v_gt, v_ge, v_eqi, v_nei, v_is, v_isNot, v_len, v_lenT, v_abs, v_int, v_item, v_itemT, v_list, v_max, v_min, v_repr, blD_bl, truD_bl, truD_lst, isF_int, isF_bl, isF_non, isF_tup, isF_str, isF_lf, isF_lk, isF_lo, isF_ll, at_0, at_1, at_2, ix_0, ix_1, ix_2, cap_i, cap_t, noL_i, noL_n, noL_b, noL_t, ck_0, ck_s, lk_0, lk_1, lk_2, lk_3, lk_4, ln_0, ln_1, ln_2, ln_3, ln_4, own_o, own_l, own_f, its_o, its_l, its_f, lend_o, lend_i, lend_b, lend_n, lend_s, lend_t, cap_k, cap_f, lend_l, lend_f, sh_o, sh_l, sh_f, sh_k, Bool.or_true, Bool.true_or, Bool.or_false, Bool.false_or, intD, isLst, lstO, List.set_cons_zero, List.set_cons_succ, bind_S, ty_i, ty_b, ty_s, ty_t, ty_l, ty_n, is_ii, is_ib, is_is, is_it, is_il, is_bi, is_bb, is_bs, is_bt, is_bl, is_si, is_sb, is_ss, is_st, is_sl, is_ti, is_tb, is_ts, is_tt, is_tl, is_li, is_lb, is_ls, is_lt, is_ll, is_ni, is_nb, is_ns, is_nt, is_nl, v_eqS, v_neS, v_inS, v_notInS, truD_n, truD_t, cap_s, cap_n, cap_b, noL_s, its_t, own_t, own_s, its_s, sv_n, sv_i, sv_s, sv_b, isStr_s, isNon_n, isNon_i, isNon_s, isNon_t, isNon_l, v_tup, forL_0, kL_nx, kL_ct, kL_bk, kL_rt, kL_ex, tg_n, tg_t, tg_0, tg_s, wp_0, wp_s, bk_0, bk_s, rd_0, rd_s, sb_a, sb_l, si_a, si_l, hd_0, out_t, out_f, argD, ite_self, List.map_cons, List.map_nil, List.append_nil, List.cons_append, List.nil_append, Bool.and_true, Bool.true_and, Bool.not_true, Bool.not_false, Bool.and_false, Bool.false_and, true_and, and_true, decide_eq_true_eq, Bool.false_eq_true, if_false, if_true, ite_true, ite_false, reduceIte, Bool.not_eq_true', Bool.true_eq_false, eq_self] at h ⊢
    · exact h _
    · exact ih h
theorem ok_read (l : List Nat) (hl : l.length ≤ 1000000) : F_read_number [.str (S l), .int 0, .int 1000000] = some (match readL l with | some n => .ok (.int n) | none => .ex ⟨1, []⟩, [none, none, none]) := by
  unfold F_read_number
  refine fn_go rfl ?_
  show Go ev_read_number [some (.str (S l)), some (.int 0), some (.int 1000000), none] _
  have el := len_S hl
  have bad : okZ l = false → readL l = none := fun h => by unfold readL; rw [h]; rfl
  unfold ev_read_number
  by_cases h17 : 1 ≤ l.length ∧ l.length ≤ 7
  · have i1 : (1 : Int) ≤ (l.length : Int) := by omega
    have i7 : (l.length : Int) ≤ 7 := by omega
    refine step [some (.str (S l)), some (.int 0), some (.int 1000000), none] (fun k Q hk => ?_) ?_
    · simp only [e_cst, e_nil, e_yes, e_var, e_fv, e_mv, e_cons, e_dfr, e_op, e_tup, e_lst, e_tr, e_notT, e_andT, e_orT, e_andV, e_orV, e_notV, e_opq, e_if, e_call, e_callM, e_chain, e_src, e_rng, e_lc, g_nx, g_retN, g_brk, g_cnt, g_seq, g_drop, g_ret, g_asg, g_if, g_for, g_app, g_set, kk_ok, kS_ok, kQ_nx, kQ_rt, kQ_bk, kQ_ct, kk_ex, kS_ex, kQ_ex, g_raise, e_isi, g_asgT, e_grd, g_try, g_tryAs, g_appT, e_chainN, lkQ_1, lkQ_2, noX_rt, noX_nx, noX_bk, noX_ct, hdQ_0, hdQ_s, tryQ_ex, tryQ_rt, tryQ_nx, tryQ_bk, tryQ_ct, tasQ_ex, tasQ_rt, tasQ_nx, tasQ_bk, tasQ_ct, has_some, sl_0, sl_s, st_0, st_s, v_add, v_sub, v_neg, v_lt, v_le, v_gt, v_ge, v_eqi, v_nei, v_is, v_isNot, v_len, v_lenT, v_abs, v_int, v_item, v_itemT, v_list, v_max, v_min, v_repr, blD_bl, truD_bl, truD_lst, isF_int, isF_bl, isF_non, isF_tup, isF_str, isF_lf, isF_lk, isF_lo, isF_ll, at_0, at_1, at_2, ix_0, ix_1, ix_2, cap_i, cap_t, noL_i, noL_n, noL_b, noL_t, ck_0, ck_s, lk_0, lk_1, lk_2, lk_3, lk_4, ln_0, ln_1, ln_2, ln_3, ln_4, own_o, own_l, own_f, its_o, its_l, its_f, lend_o, lend_i, lend_b, lend_n, lend_s, lend_t, cap_k, cap_f, lend_l, lend_f, sh_o, sh_l, sh_f, sh_k, Bool.or_true, Bool.true_or, Bool.or_false, Bool.false_or, intD, isLst, lstO, List.set_cons_zero, List.set_cons_succ, bind_S, ty_i, ty_b, ty_s, ty_t, ty_l, ty_n, is_ii, is_ib, is_is, is_it, is_il, is_bi, is_bb, is_bs, is_bt, is_bl, is_si, is_sb, is_ss, is_st, is_sl, is_ti, is_tb, is_ts, is_tt, is_tl, is_li, is_lb, is_ls, is_lt, is_ll, is_ni, is_nb, is_ns, is_nt, is_nl, v_eqS, v_neS, v_inS, v_notInS, truD_n, truD_t, cap_s, cap_n, cap_b, noL_s, its_t, own_t, own_s, its_s, sv_n, sv_i, sv_s, sv_b, isStr_s, isNon_n, isNon_i, isNon_s, isNon_t, isNon_l, v_tup, forL_0, kL_nx, kL_ct, kL_bk, kL_rt, kL_ex, tg_n, tg_t, tg_0, tg_s, wp_0, wp_s, bk_0, bk_s, rd_0, rd_s, sb_a, sb_l, si_a, si_l, hd_0, out_t, out_f, argD, ite_self, List.map_cons, List.map_nil, List.append_nil, List.cons_append, List.nil_append, Bool.and_true, Bool.true_and, Bool.not_true, Bool.not_false, Bool.and_false, Bool.false_and, true_and, and_true, decide_eq_true_eq, Bool.false_eq_true, if_false, if_true, ite_true, ite_false, reduceIte, Bool.not_eq_true', Bool.true_eq_false, eq_self, el, i1, i7, decide_true]
      exact hk
    simp only [e_cst, e_nil, e_yes, e_var, e_fv, e_mv, e_cons, e_dfr, e_op, e_tup, e_lst, e_tr, e_notT, e_andT, e_orT, e_andV, e_orV, e_notV, e_opq, e_if, e_call, e_callM, e_chain, e_src, e_rng, e_lc, g_nx, g_retN, g_brk, g_cnt, g_seq, g_drop, g_ret, g_asg, g_if, g_for, g_app, g_set, kk_ok, kS_ok, kQ_nx, kQ_rt, kQ_bk, kQ_ct, kk_ex, kS_ex, kQ_ex, g_raise, e_isi, g_asgT, e_grd, g_try, g_tryAs, g_appT, e_chainN, lkQ_1, lkQ_2, noX_rt, noX_nx, noX_bk, noX_ct, hdQ_0, hdQ_s, tryQ_ex, tryQ_rt, tryQ_nx, tryQ_bk, tryQ_ct, tasQ_ex, tasQ_rt, tasQ_nx, tasQ_bk, tasQ_ct, has_some, sl_0, sl_s, st_0, st_s, v_add, v_sub, v_neg, v_lt, v_le, v_gt, v_ge, v_eqi, v_nei, v_is, v_isNot, v_len, v_lenT, v_abs, v_int, v_item, v_itemT, v_list, v_max, v_min, v_repr, blD_bl, truD_bl, truD_lst, isF_int, isF_bl, isF_non, isF_tup, isF_str, isF_lf, isF_lk, isF_lo, isF_ll, at_0, at_1, at_2, ix_0, ix_1, ix_2, cap_i, cap_t, noL_i, noL_n, noL_b, noL_t, ck_0, ck_s, lk_0, lk_1, lk_2, lk_3, lk_4, ln_0, ln_1, ln_2, ln_3, ln_4, own_o, own_l, own_f, its_o, its_l, its_f, lend_o, lend_i, lend_b, lend_n, lend_s, lend_t, cap_k, cap_f, lend_l, lend_f, sh_o, sh_l, sh_f, sh_k, Bool.or_true, Bool.true_or, Bool.or_false, Bool.false_or, intD, isLst, lstO, List.set_cons_zero, List.set_cons_succ, bind_S, ty_i, ty_b, ty_s, ty_t, ty_l, ty_n, is_ii, is_ib, is_is, is_it, is_il, is_bi, is_bb, is_bs, is_bt, is_bl, is_si, is_sb, is_ss, is_st, is_sl, is_ti, is_tb, is_ts, is_tt, is_tl, is_li, is_lb, is_ls, is_lt, is_ll, is_ni, is_nb, is_ns, is_nt, is_nl, v_eqS, v_neS, v_inS, v_notInS, truD_n, truD_t, cap_s, cap_n, cap_b, noL_s, its_t, own_t, own_s, its_s, sv_n, sv_i, sv_s, sv_b, isStr_s, isNon_n, isNon_i, isNon_s, isNon_t, isNon_l, v_tup, forL_0, kL_nx, kL_ct, kL_bk, kL_rt, kL_ex, tg_n, tg_t, tg_0, tg_s, wp_0, wp_s, bk_0, bk_s, rd_0, rd_s, sb_a, sb_l, si_a, si_l, hd_0, out_t, out_f, argD, ite_self, List.map_cons, List.map_nil, List.append_nil, List.cons_append, List.nil_append, Bool.and_true, Bool.true_and, Bool.not_true, Bool.not_false, Bool.and_false, Bool.false_and, true_and, and_true, decide_eq_true_eq, Bool.false_eq_true, if_false, if_true, ite_true, ite_false, reduceIte, Bool.not_eq_true', Bool.true_eq_false, eq_self, signs_S]
    refine lp_dig l none fun a => ?_
    cases hd : l.all dig with
    | false =>
      have hb := bad (by unfold okZ; rw [hd]; simp)
      simp only [e_cst, e_nil, e_yes, e_var, e_fv, e_mv, e_cons, e_dfr, e_op, e_tup, e_lst, e_tr, e_notT, e_andT, e_orT, e_andV, e_orV, e_notV, e_opq, e_if, e_call, e_callM, e_chain, e_src, e_rng, e_lc, g_nx, g_retN, g_brk, g_cnt, g_seq, g_drop, g_ret, g_asg, g_if, g_for, g_app, g_set, kk_ok, kS_ok, kQ_nx, kQ_rt, kQ_bk, kQ_ct, kk_ex, kS_ex, kQ_ex, g_raise, e_isi, g_asgT, e_grd, g_try, g_tryAs, g_appT, e_chainN, lkQ_1, lkQ_2, noX_rt, noX_nx, noX_bk, noX_ct, hdQ_0, hdQ_s, tryQ_ex, tryQ_rt, tryQ_nx, tryQ_bk, tryQ_ct, tasQ_ex, tasQ_rt, tasQ_nx, tasQ_bk, tasQ_ct, has_some, sl_0, sl_s, st_0, st_s, v_add, v_sub, v_neg, v_lt, v_le, v_gt, v_ge, v_eqi, v_nei, v_is, v_isNot, v_len, v_lenT, v_abs, v_int, v_item, v_itemT, v_list, v_max, v_min, v_repr, blD_bl, truD_bl, truD_lst, isF_int, isF_bl, isF_non, isF_tup, isF_str, isF_lf, isF_lk, isF_lo, isF_ll, at_0, at_1, at_2, ix_0, ix_1, ix_2, cap_i, cap_t, noL_i, noL_n, noL_b, noL_t, ck_0, ck_s, lk_0, lk_1, lk_2, lk_3, lk_4, ln_0, ln_1, ln_2, ln_3, ln_4, own_o, own_l, own_f, its_o, its_l, its_f, lend_o, lend_i, lend_b, lend_n, lend_s, lend_t, cap_k, cap_f, lend_l, lend_f, sh_o, sh_l, sh_f, sh_k, Bool.or_true, Bool.true_or, Bool.or_false, Bool.false_or, intD, isLst, lstO, List.set_cons_zero, List.set_cons_succ, bind_S, ty_i, ty_b, ty_s, ty_t, ty_l, ty_n, is_ii, is_ib, is_is, is_it, is_il, is_bi, is_bb, is_bs, is_bt, is_bl, is_si, is_sb, is_ss, is_st, is_sl, is_ti, is_tb, is_ts, is_tt, is_tl, is_li, is_lb, is_ls, is_lt, is_ll, is_ni, is_nb, is_ns, is_nt, is_nl, v_eqS, v_neS, v_inS, v_notInS, truD_n, truD_t, cap_s, cap_n, cap_b, noL_s, its_t, own_t, own_s, its_s, sv_n, sv_i, sv_s, sv_b, isStr_s, isNon_n, isNon_i, isNon_s, isNon_t, isNon_l, v_tup, forL_0, kL_nx, kL_ct, kL_bk, kL_rt, kL_ex, tg_n, tg_t, tg_0, tg_s, wp_0, wp_s, bk_0, bk_s, rd_0, rd_s, sb_a, sb_l, si_a, si_l, hd_0, out_t, out_f, argD, ite_self, List.map_cons, List.map_nil, List.append_nil, List.cons_append, List.nil_append, Bool.and_true, Bool.true_and, Bool.not_true, Bool.not_false, Bool.and_false, Bool.false_and, true_and, and_true, decide_eq_true_eq, Bool.false_eq_true, if_false, if_true, ite_true, ite_false, reduceIte, Bool.not_eq_true', Bool.true_eq_false, eq_self, hb]
      rfl
    | true =>
      have ei := int_l hd h17.1 h17.2
      obtain ⟨c, r, rfl⟩ : ∃ c r, l = c :: r := by
        cases l with
        | nil => simp at h17
        | cons c r => exact ⟨c, r, rfl⟩
      have e0 := item_S hl
      have o : okZ (c :: r) = !(decide (1 < (c :: r).length) && decide (c = 48)) := by
        unfold okZ; rw [hd, decide_eq_true h17.1, decide_eq_true h17.2]; simp only [List.head?_cons, Bool.true_and, Option.some.injEq]
      simp only [e_cst, e_nil, e_yes, e_var, e_fv, e_mv, e_cons, e_dfr, e_op, e_tup, e_lst, e_tr, e_notT, e_andT, e_orT, e_andV, e_orV, e_notV, e_opq, e_if, e_call, e_callM, e_chain, e_src, e_rng, e_lc, g_nx, g_retN, g_brk, g_cnt, g_seq, g_drop, g_ret, g_asg, g_if, g_for, g_app, g_set, kk_ok, kS_ok, kQ_nx, kQ_rt, kQ_bk, kQ_ct, kk_ex, kS_ex, kQ_ex, g_raise, e_isi, g_asgT, e_grd, g_try, g_tryAs, g_appT, e_chainN, lkQ_1, lkQ_2, noX_rt, noX_nx, noX_bk, noX_ct, hdQ_0, hdQ_s, tryQ_ex, tryQ_rt, tryQ_nx, tryQ_bk, tryQ_ct, tasQ_ex, tasQ_rt, tasQ_nx, tasQ_bk, tasQ_ct, has_some, sl_0, sl_s, st_0, st_s, v_add, v_sub, v_neg, v_lt, v_le, v_gt, v_ge, v_eqi, v_nei, v_is, v_isNot, v_len, v_lenT, v_abs, v_int, v_item, v_itemT, v_list, v_max, v_min, v_repr, blD_bl, truD_bl, truD_lst, isF_int, isF_bl, isF_non, isF_tup, isF_str, isF_lf, isF_lk, isF_lo, isF_ll, at_0, at_1, at_2, ix_0, ix_1, ix_2, cap_i, cap_t, noL_i, noL_n, noL_b, noL_t, ck_0, ck_s, lk_0, lk_1, lk_2, lk_3, lk_4, ln_0, ln_1, ln_2, ln_3, ln_4, own_o, own_l, own_f, its_o, its_l, its_f, lend_o, lend_i, lend_b, lend_n, lend_s, lend_t, cap_k, cap_f, lend_l, lend_f, sh_o, sh_l, sh_f, sh_k, Bool.or_true, Bool.true_or, Bool.or_false, Bool.false_or, intD, isLst, lstO, List.set_cons_zero, List.set_cons_succ, bind_S, ty_i, ty_b, ty_s, ty_t, ty_l, ty_n, is_ii, is_ib, is_is, is_it, is_il, is_bi, is_bb, is_bs, is_bt, is_bl, is_si, is_sb, is_ss, is_st, is_sl, is_ti, is_tb, is_ts, is_tt, is_tl, is_li, is_lb, is_ls, is_lt, is_ll, is_ni, is_nb, is_ns, is_nt, is_nl, v_eqS, v_neS, v_inS, v_notInS, truD_n, truD_t, cap_s, cap_n, cap_b, noL_s, its_t, own_t, own_s, its_s, sv_n, sv_i, sv_s, sv_b, isStr_s, isNon_n, isNon_i, isNon_s, isNon_t, isNon_l, v_tup, forL_0, kL_nx, kL_ct, kL_bk, kL_rt, kL_ex, tg_n, tg_t, tg_0, tg_s, wp_0, wp_s, bk_0, bk_s, rd_0, rd_s, sb_a, sb_l, si_a, si_l, hd_0, out_t, out_f, argD, ite_self, List.map_cons, List.map_nil, List.append_nil, List.cons_append, List.nil_append, Bool.and_true, Bool.true_and, Bool.not_true, Bool.not_false, Bool.and_false, Bool.false_and, true_and, and_true, decide_eq_true_eq, Bool.false_eq_true, if_false, if_true, ite_true, ite_false, reduceIte, Bool.not_eq_true', Bool.true_eq_false, eq_self, el, e0, sg_0, ei, ok_chk]
      have hv := val_nn (c :: r)
      by_cases h2 : (1 : Int) < ((c :: r).length : Int)
      · have h2' : 1 < (c :: r).length := by omega
        by_cases h3 : c = 48
        · have hb := bad (by rw [o, decide_eq_true h2', decide_eq_true h3]; rfl)
          subst h3
          simp only [h2, e_cst, e_nil, e_yes, e_var, e_fv, e_mv, e_cons, e_dfr, e_op, e_tup, e_lst, e_tr, e_notT, e_andT, e_orT, e_andV, e_orV, e_notV, e_opq, e_if, e_call, e_callM, e_chain, e_src, e_rng, e_lc, g_nx, g_retN, g_brk, g_cnt, g_seq, g_drop, g_ret, g_asg, g_if, g_for, g_app, g_set, kk_ok, kS_ok, kQ_nx, kQ_rt, kQ_bk, kQ_ct, kk_ex, kS_ex, kQ_ex, g_raise, e_isi, g_asgT, e_grd, g_try, g_tryAs, g_appT, e_chainN, lkQ_1, lkQ_2, noX_rt, noX_nx, noX_bk, noX_ct, hdQ_0, hdQ_s, tryQ_ex, tryQ_rt, tryQ_nx, tryQ_bk, tryQ_ct, tasQ_ex, tasQ_rt, tasQ_nx, tasQ_bk, tasQ_ct, has_some, sl_0, sl_s, st_0, st_s, v_add, v_sub, v_neg, v_lt, v_le, v_gt, v_ge, v_eqi, v_nei, v_is, v_isNot, v_len, v_lenT, v_abs, v_int, v_item, v_itemT, v_list, v_max, v_min, v_repr, blD_bl, truD_bl, truD_lst, isF_int, isF_bl, isF_non, isF_tup, isF_str, isF_lf, isF_lk, isF_lo, isF_ll, at_0, at_1, at_2, ix_0, ix_1, ix_2, cap_i, cap_t, noL_i, noL_n, noL_b, noL_t, ck_0, ck_s, lk_0, lk_1, lk_2, lk_3, lk_4, ln_0, ln_1, ln_2, ln_3, ln_4, own_o, own_l, own_f, its_o, its_l, its_f, lend_o, lend_i, lend_b, lend_n, lend_s, lend_t, cap_k, cap_f, lend_l, lend_f, sh_o, sh_l, sh_f, sh_k, Bool.or_true, Bool.true_or, Bool.or_false, Bool.false_or, intD, isLst, lstO, List.set_cons_zero, List.set_cons_succ, bind_S, ty_i, ty_b, ty_s, ty_t, ty_l, ty_n, is_ii, is_ib, is_is, is_it, is_il, is_bi, is_bb, is_bs, is_bt, is_bl, is_si, is_sb, is_ss, is_st, is_sl, is_ti, is_tb, is_ts, is_tt, is_tl, is_li, is_lb, is_ls, is_lt, is_ll, is_ni, is_nb, is_ns, is_nt, is_nl, v_eqS, v_neS, v_inS, v_notInS, truD_n, truD_t, cap_s, cap_n, cap_b, noL_s, its_t, own_t, own_s, its_s, sv_n, sv_i, sv_s, sv_b, isStr_s, isNon_n, isNon_i, isNon_s, isNon_t, isNon_l, v_tup, forL_0, kL_nx, kL_ct, kL_bk, kL_rt, kL_ex, tg_n, tg_t, tg_0, tg_s, wp_0, wp_s, bk_0, bk_s, rd_0, rd_s, sb_a, sb_l, si_a, si_l, hd_0, out_t, out_f, argD, ite_self, List.map_cons, List.map_nil, List.append_nil, List.cons_append, List.nil_append, Bool.and_true, Bool.true_and, Bool.not_true, Bool.not_false, Bool.and_false, Bool.false_and, true_and, and_true, decide_eq_true_eq, Bool.false_eq_true, if_false, if_true, ite_true, ite_false, reduceIte, Bool.not_eq_true', Bool.true_eq_false, eq_self, hb]
          rfl
        · have hk : okZ (c :: r) = true := by rw [o]; simp [h3]
          unfold readL
          simp only [h2, h3, e_cst, e_nil, e_yes, e_var, e_fv, e_mv, e_cons, e_dfr, e_op, e_tup, e_lst, e_tr, e_notT, e_andT, e_orT, e_andV, e_orV, e_notV, e_opq, e_if, e_call, e_callM, e_chain, e_src, e_rng, e_lc, g_nx, g_retN, g_brk, g_cnt, g_seq, g_drop, g_ret, g_asg, g_if, g_for, g_app, g_set, kk_ok, kS_ok, kQ_nx, kQ_rt, kQ_bk, kQ_ct, kk_ex, kS_ex, kQ_ex, g_raise, e_isi, g_asgT, e_grd, g_try, g_tryAs, g_appT, e_chainN, lkQ_1, lkQ_2, noX_rt, noX_nx, noX_bk, noX_ct, hdQ_0, hdQ_s, tryQ_ex, tryQ_rt, tryQ_nx, tryQ_bk, tryQ_ct, tasQ_ex, tasQ_rt, tasQ_nx, tasQ_bk, tasQ_ct, has_some, sl_0, sl_s, st_0, st_s, v_add, v_sub, v_neg, v_lt, v_le, v_gt, v_ge, v_eqi, v_nei, v_is, v_isNot, v_len, v_lenT, v_abs, v_int, v_item, v_itemT, v_list, v_max, v_min, v_repr, blD_bl, truD_bl, truD_lst, isF_int, isF_bl, isF_non, isF_tup, isF_str, isF_lf, isF_lk, isF_lo, isF_ll, at_0, at_1, at_2, ix_0, ix_1, ix_2, cap_i, cap_t, noL_i, noL_n, noL_b, noL_t, ck_0, ck_s, lk_0, lk_1, lk_2, lk_3, lk_4, ln_0, ln_1, ln_2, ln_3, ln_4, own_o, own_l, own_f, its_o, its_l, its_f, lend_o, lend_i, lend_b, lend_n, lend_s, lend_t, cap_k, cap_f, lend_l, lend_f, sh_o, sh_l, sh_f, sh_k, Bool.or_true, Bool.true_or, Bool.or_false, Bool.false_or, intD, isLst, lstO, List.set_cons_zero, List.set_cons_succ, bind_S, ty_i, ty_b, ty_s, ty_t, ty_l, ty_n, is_ii, is_ib, is_is, is_it, is_il, is_bi, is_bb, is_bs, is_bt, is_bl, is_si, is_sb, is_ss, is_st, is_sl, is_ti, is_tb, is_ts, is_tt, is_tl, is_li, is_lb, is_ls, is_lt, is_ll, is_ni, is_nb, is_ns, is_nt, is_nl, v_eqS, v_neS, v_inS, v_notInS, truD_n, truD_t, cap_s, cap_n, cap_b, noL_s, its_t, own_t, own_s, its_s, sv_n, sv_i, sv_s, sv_b, isStr_s, isNon_n, isNon_i, isNon_s, isNon_t, isNon_l, v_tup, forL_0, kL_nx, kL_ct, kL_bk, kL_rt, kL_ex, tg_n, tg_t, tg_0, tg_s, wp_0, wp_s, bk_0, bk_s, rd_0, rd_s, sb_a, sb_l, si_a, si_l, hd_0, out_t, out_f, argD, ite_self, List.map_cons, List.map_nil, List.append_nil, List.cons_append, List.nil_append, Bool.and_true, Bool.true_and, Bool.not_true, Bool.not_false, Bool.and_false, Bool.false_and, true_and, and_true, decide_eq_true_eq, Bool.false_eq_true, if_false, if_true, ite_true, ite_false, reduceIte, Bool.not_eq_true', Bool.true_eq_false, eq_self, hk, hv]
          by_cases h4 : val (c :: r) ≤ 1000000 <;> simp only [h4, e_cst, e_nil, e_yes, e_var, e_fv, e_mv, e_cons, e_dfr, e_op, e_tup, e_lst, e_tr, e_notT, e_andT, e_orT, e_andV, e_orV, e_notV, e_opq, e_if, e_call, e_callM, e_chain, e_src, e_rng, e_lc, g_nx, g_retN, g_brk, g_cnt, g_seq, g_drop, g_ret, g_asg, g_if, g_for, g_app, g_set, kk_ok, kS_ok, kQ_nx, kQ_rt, kQ_bk, kQ_ct, kk_ex, kS_ex, kQ_ex, g_raise, e_isi, g_asgT, e_grd, g_try, g_tryAs, g_appT, e_chainN, lkQ_1, lkQ_2, noX_rt, noX_nx, noX_bk, noX_ct, hdQ_0, hdQ_s, tryQ_ex, tryQ_rt, tryQ_nx, tryQ_bk, tryQ_ct, tasQ_ex, tasQ_rt, tasQ_nx, tasQ_bk, tasQ_ct, has_some, sl_0, sl_s, st_0, st_s, v_add, v_sub, v_neg, v_lt, v_le, v_gt, v_ge, v_eqi, v_nei, v_is, v_isNot, v_len, v_lenT, v_abs, v_int, v_item, v_itemT, v_list, v_max, v_min, v_repr, blD_bl, truD_bl, truD_lst, isF_int, isF_bl, isF_non, isF_tup, isF_str, isF_lf, isF_lk, isF_lo, isF_ll, at_0, at_1, at_2, ix_0, ix_1, ix_2, cap_i, cap_t, noL_i, noL_n, noL_b, noL_t, ck_0, ck_s, lk_0, lk_1, lk_2, lk_3, lk_4, ln_0, ln_1, ln_2, ln_3, ln_4, own_o, own_l, own_f, its_o, its_l, its_f, lend_o, lend_i, lend_b, lend_n, lend_s, lend_t, cap_k, cap_f, lend_l, lend_f, sh_o, sh_l, sh_f, sh_k, Bool.or_true, Bool.true_or, Bool.or_false, Bool.false_or, intD, isLst, lstO, List.set_cons_zero, List.set_cons_succ, bind_S, ty_i, ty_b, ty_s, ty_t, ty_l, ty_n, is_ii, is_ib, is_is, is_it, is_il, is_bi, is_bb, is_bs, is_bt, is_bl, is_si, is_sb, is_ss, is_st, is_sl, is_ti, is_tb, is_ts, is_tt, is_tl, is_li, is_lb, is_ls, is_lt, is_ll, is_ni, is_nb, is_ns, is_nt, is_nl, v_eqS, v_neS, v_inS, v_notInS, truD_n, truD_t, cap_s, cap_n, cap_b, noL_s, its_t, own_t, own_s, its_s, sv_n, sv_i, sv_s, sv_b, isStr_s, isNon_n, isNon_i, isNon_s, isNon_t, isNon_l, v_tup, forL_0, kL_nx, kL_ct, kL_bk, kL_rt, kL_ex, tg_n, tg_t, tg_0, tg_s, wp_0, wp_s, bk_0, bk_s, rd_0, rd_s, sb_a, sb_l, si_a, si_l, hd_0, out_t, out_f, argD, ite_self, List.map_cons, List.map_nil, List.append_nil, List.cons_append, List.nil_append, Bool.and_true, Bool.true_and, Bool.not_true, Bool.not_false, Bool.and_false, Bool.false_and, true_and, and_true, decide_eq_true_eq, Bool.false_eq_true, if_false, if_true, ite_true, ite_false, reduceIte, Bool.not_eq_true', Bool.true_eq_false, eq_self] <;> rfl
      · have h2' : ¬ 1 < (c :: r).length := by omega
        have hk : okZ (c :: r) = true := by rw [o, decide_eq_false h2']; rfl
        unfold readL
        simp only [h2, e_cst, e_nil, e_yes, e_var, e_fv, e_mv, e_cons, e_dfr, e_op, e_tup, e_lst, e_tr, e_notT, e_andT, e_orT, e_andV, e_orV, e_notV, e_opq, e_if, e_call, e_callM, e_chain, e_src, e_rng, e_lc, g_nx, g_retN, g_brk, g_cnt, g_seq, g_drop, g_ret, g_asg, g_if, g_for, g_app, g_set, kk_ok, kS_ok, kQ_nx, kQ_rt, kQ_bk, kQ_ct, kk_ex, kS_ex, kQ_ex, g_raise, e_isi, g_asgT, e_grd, g_try, g_tryAs, g_appT, e_chainN, lkQ_1, lkQ_2, noX_rt, noX_nx, noX_bk, noX_ct, hdQ_0, hdQ_s, tryQ_ex, tryQ_rt, tryQ_nx, tryQ_bk, tryQ_ct, tasQ_ex, tasQ_rt, tasQ_nx, tasQ_bk, tasQ_ct, has_some, sl_0, sl_s, st_0, st_s, v_add, v_sub, v_neg, v_lt, v_le, v_gt, v_ge, v_eqi, v_nei, v_is, v_isNot, v_len, v_lenT, v_abs, v_int, v_item, v_itemT, v_list, v_max, v_min, v_repr, blD_bl, truD_bl, truD_lst, isF_int, isF_bl, isF_non, isF_tup, isF_str, isF_lf, isF_lk, isF_lo, isF_ll, at_0, at_1, at_2, ix_0, ix_1, ix_2, cap_i, cap_t, noL_i, noL_n, noL_b, noL_t, ck_0, ck_s, lk_0, lk_1, lk_2, lk_3, lk_4, ln_0, ln_1, ln_2, ln_3, ln_4, own_o, own_l, own_f, its_o, its_l, its_f, lend_o, lend_i, lend_b, lend_n, lend_s, lend_t, cap_k, cap_f, lend_l, lend_f, sh_o, sh_l, sh_f, sh_k, Bool.or_true, Bool.true_or, Bool.or_false, Bool.false_or, intD, isLst, lstO, List.set_cons_zero, List.set_cons_succ, bind_S, ty_i, ty_b, ty_s, ty_t, ty_l, ty_n, is_ii, is_ib, is_is, is_it, is_il, is_bi, is_bb, is_bs, is_bt, is_bl, is_si, is_sb, is_ss, is_st, is_sl, is_ti, is_tb, is_ts, is_tt, is_tl, is_li, is_lb, is_ls, is_lt, is_ll, is_ni, is_nb, is_ns, is_nt, is_nl, v_eqS, v_neS, v_inS, v_notInS, truD_n, truD_t, cap_s, cap_n, cap_b, noL_s, its_t, own_t, own_s, its_s, sv_n, sv_i, sv_s, sv_b, isStr_s, isNon_n, isNon_i, isNon_s, isNon_t, isNon_l, v_tup, forL_0, kL_nx, kL_ct, kL_bk, kL_rt, kL_ex, tg_n, tg_t, tg_0, tg_s, wp_0, wp_s, bk_0, bk_s, rd_0, rd_s, sb_a, sb_l, si_a, si_l, hd_0, out_t, out_f, argD, ite_self, List.map_cons, List.map_nil, List.append_nil, List.cons_append, List.nil_append, Bool.and_true, Bool.true_and, Bool.not_true, Bool.not_false, Bool.and_false, Bool.false_and, true_and, and_true, decide_eq_true_eq, Bool.false_eq_true, if_false, if_true, ite_true, ite_false, reduceIte, Bool.not_eq_true', Bool.true_eq_false, eq_self, hk, hv]
        by_cases h4 : val (c :: r) ≤ 1000000 <;> simp only [h4, e_cst, e_nil, e_yes, e_var, e_fv, e_mv, e_cons, e_dfr, e_op, e_tup, e_lst, e_tr, e_notT, e_andT, e_orT, e_andV, e_orV, e_notV, e_opq, e_if, e_call, e_callM, e_chain, e_src, e_rng, e_lc, g_nx, g_retN, g_brk, g_cnt, g_seq, g_drop, g_ret, g_asg, g_if, g_for, g_app, g_set, kk_ok, kS_ok, kQ_nx, kQ_rt, kQ_bk, kQ_ct, kk_ex, kS_ex, kQ_ex, g_raise, e_isi, g_asgT, e_grd, g_try, g_tryAs, g_appT, e_chainN, lkQ_1, lkQ_2, noX_rt, noX_nx, noX_bk, noX_ct, hdQ_0, hdQ_s, tryQ_ex, tryQ_rt, tryQ_nx, tryQ_bk, tryQ_ct, tasQ_ex, tasQ_rt, tasQ_nx, tasQ_bk, tasQ_ct, has_some, sl_0, sl_s, st_0, st_s, v_add, v_sub, v_neg, v_lt, v_le, v_gt, v_ge, v_eqi, v_nei, v_is, v_isNot, v_len, v_lenT, v_abs, v_int, v_item, v_itemT, v_list, v_max, v_min, v_repr, blD_bl, truD_bl, truD_lst, isF_int, isF_bl, isF_non, isF_tup, isF_str, isF_lf, isF_lk, isF_lo, isF_ll, at_0, at_1, at_2, ix_0, ix_1, ix_2, cap_i, cap_t, noL_i, noL_n, noL_b, noL_t, ck_0, ck_s, lk_0, lk_1, lk_2, lk_3, lk_4, ln_0, ln_1, ln_2, ln_3, ln_4, own_o, own_l, own_f, its_o, its_l, its_f, lend_o, lend_i, lend_b, lend_n, lend_s, lend_t, cap_k, cap_f, lend_l, lend_f, sh_o, sh_l, sh_f, sh_k, Bool.or_true, Bool.true_or, Bool.or_false, Bool.false_or, intD, isLst, lstO, List.set_cons_zero, List.set_cons_succ, bind_S, ty_i, ty_b, ty_s, ty_t, ty_l, ty_n, is_ii, is_ib, is_is, is_it, is_il, is_bi, is_bb, is_bs, is_bt, is_bl, is_si, is_sb, is_ss, is_st, is_sl, is_ti, is_tb, is_ts, is_tt, is_tl, is_li, is_lb, is_ls, is_lt, is_ll, is_ni, is_nb, is_ns, is_nt, is_nl, v_eqS, v_neS, v_inS, v_notInS, truD_n, truD_t, cap_s, cap_n, cap_b, noL_s, its_t, own_t, own_s, its_s, sv_n, sv_i, sv_s, sv_b, isStr_s, isNon_n, isNon_i, isNon_s, isNon_t, isNon_l, v_tup, forL_0, kL_nx, kL_ct, kL_bk, kL_rt, kL_ex, tg_n, tg_t, tg_0, tg_s, wp_0, wp_s, bk_0, bk_s, rd_0, rd_s, sb_a, sb_l, si_a, si_l, hd_0, out_t, out_f, argD, ite_self, List.map_cons, List.map_nil, List.append_nil, List.cons_append, List.nil_append, Bool.and_true, Bool.true_and, Bool.not_true, Bool.not_false, Bool.and_false, Bool.false_and, true_and, and_true, decide_eq_true_eq, Bool.false_eq_true, if_false, if_true, ite_true, ite_false, reduceIte, Bool.not_eq_true', Bool.true_eq_false, eq_self] <;> rfl
  · have hb := bad (by
      unfold okZ
      by_cases h1 : 1 ≤ l.length
      · have : ¬ l.length ≤ 7 := fun z => h17 ⟨h1, z⟩
        simp [this]
      · simp [h1])
    by_cases h1 : (1 : Int) ≤ (l.length : Int)
    · have i7 : ¬ (l.length : Int) ≤ 7 := by omega
      simp only [e_cst, e_nil, e_yes, e_var, e_fv, e_mv, e_cons, e_dfr, e_op, e_tup, e_lst, e_tr, e_notT, e_andT, e_orT, e_andV, e_orV, e_notV, e_opq, e_if, e_call, e_callM, e_chain, e_src, e_rng, e_lc, g_nx, g_retN, g_brk, g_cnt, g_seq, g_drop, g_ret, g_asg, g_if, g_for, g_app, g_set, kk_ok, kS_ok, kQ_nx, kQ_rt, kQ_bk, kQ_ct, kk_ex, kS_ex, kQ_ex, g_raise, e_isi, g_asgT, e_grd, g_try, g_tryAs, g_appT, e_chainN, lkQ_1, lkQ_2, noX_rt, noX_nx, noX_bk, noX_ct, hdQ_0, hdQ_s, tryQ_ex, tryQ_rt, tryQ_nx, tryQ_bk, tryQ_ct, tasQ_ex, tasQ_rt, tasQ_nx, tasQ_bk, tasQ_ct, has_some, sl_0, sl_s, st_0, st_s, v_add, v_sub, v_neg, v_lt, v_le, v_gt, v_ge, v_eqi, v_nei, v_is, v_isNot, v_len, v_lenT, v_abs, v_int, v_item, v_itemT, v_list, v_max, v_min, v_repr, blD_bl, truD_bl, truD_lst, isF_int, isF_bl, isF_non, isF_tup, isF_str, isF_lf, isF_lk, isF_lo, isF_ll, at_0, at_1, at_2, ix_0, ix_1, ix_2, cap_i, cap_t, noL_i, noL_n, noL_b, noL_t, ck_0, ck_s, lk_0, lk_1, lk_2, lk_3, lk_4, ln_0, ln_1, ln_2, ln_3, ln_4, own_o, own_l, own_f, its_o, its_l, its_f, lend_o, lend_i, lend_b, lend_n, lend_s, lend_t, cap_k, cap_f, lend_l, lend_f, sh_o, sh_l, sh_f, sh_k, Bool.or_true, Bool.true_or, Bool.or_false, Bool.false_or, intD, isLst, lstO, List.set_cons_zero, List.set_cons_succ, bind_S, ty_i, ty_b, ty_s, ty_t, ty_l, ty_n, is_ii, is_ib, is_is, is_it, is_il, is_bi, is_bb, is_bs, is_bt, is_bl, is_si, is_sb, is_ss, is_st, is_sl, is_ti, is_tb, is_ts, is_tt, is_tl, is_li, is_lb, is_ls, is_lt, is_ll, is_ni, is_nb, is_ns, is_nt, is_nl, v_eqS, v_neS, v_inS, v_notInS, truD_n, truD_t, cap_s, cap_n, cap_b, noL_s, its_t, own_t, own_s, its_s, sv_n, sv_i, sv_s, sv_b, isStr_s, isNon_n, isNon_i, isNon_s, isNon_t, isNon_l, v_tup, forL_0, kL_nx, kL_ct, kL_bk, kL_rt, kL_ex, tg_n, tg_t, tg_0, tg_s, wp_0, wp_s, bk_0, bk_s, rd_0, rd_s, sb_a, sb_l, si_a, si_l, hd_0, out_t, out_f, argD, ite_self, List.map_cons, List.map_nil, List.append_nil, List.cons_append, List.nil_append, Bool.and_true, Bool.true_and, Bool.not_true, Bool.not_false, Bool.and_false, Bool.false_and, true_and, and_true, decide_eq_true_eq, Bool.false_eq_true, if_false, if_true, ite_true, ite_false, reduceIte, Bool.not_eq_true', Bool.true_eq_false, eq_self, el, h1, i7, decide_true, decide_false, hb]
      rfl
    · simp only [e_cst, e_nil, e_yes, e_var, e_fv, e_mv, e_cons, e_dfr, e_op, e_tup, e_lst, e_tr, e_notT, e_andT, e_orT, e_andV, e_orV, e_notV, e_opq, e_if, e_call, e_callM, e_chain, e_src, e_rng, e_lc, g_nx, g_retN, g_brk, g_cnt, g_seq, g_drop, g_ret, g_asg, g_if, g_for, g_app, g_set, kk_ok, kS_ok, kQ_nx, kQ_rt, kQ_bk, kQ_ct, kk_ex, kS_ex, kQ_ex, g_raise, e_isi, g_asgT, e_grd, g_try, g_tryAs, g_appT, e_chainN, lkQ_1, lkQ_2, noX_rt, noX_nx, noX_bk, noX_ct, hdQ_0, hdQ_s, tryQ_ex, tryQ_rt, tryQ_nx, tryQ_bk, tryQ_ct, tasQ_ex, tasQ_rt, tasQ_nx, tasQ_bk, tasQ_ct, has_some, sl_0, sl_s, st_0, st_s, v_add, v_sub, v_neg, v_lt, v_le, v_gt, v_ge, v_eqi, v_nei, v_is, v_isNot, v_len, v_lenT, v_abs, v_int, v_item, v_itemT, v_list, v_max, v_min, v_repr, blD_bl, truD_bl, truD_lst, isF_int, isF_bl, isF_non, isF_tup, isF_str, isF_lf, isF_lk, isF_lo, isF_ll, at_0, at_1, at_2, ix_0, ix_1, ix_2, cap_i, cap_t, noL_i, noL_n, noL_b, noL_t, ck_0, ck_s, lk_0, lk_1, lk_2, lk_3, lk_4, ln_0, ln_1, ln_2, ln_3, ln_4, own_o, own_l, own_f, its_o, its_l, its_f, lend_o, lend_i, lend_b, lend_n, lend_s, lend_t, cap_k, cap_f, lend_l, lend_f, sh_o, sh_l, sh_f, sh_k, Bool.or_true, Bool.true_or, Bool.or_false, Bool.false_or, intD, isLst, lstO, List.set_cons_zero, List.set_cons_succ, bind_S, ty_i, ty_b, ty_s, ty_t, ty_l, ty_n, is_ii, is_ib, is_is, is_it, is_il, is_bi, is_bb, is_bs, is_bt, is_bl, is_si, is_sb, is_ss, is_st, is_sl, is_ti, is_tb, is_ts, is_tt, is_tl, is_li, is_lb, is_ls, is_lt, is_ll, is_ni, is_nb, is_ns, is_nt, is_nl, v_eqS, v_neS, v_inS, v_notInS, truD_n, truD_t, cap_s, cap_n, cap_b, noL_s, its_t, own_t, own_s, its_s, sv_n, sv_i, sv_s, sv_b, isStr_s, isNon_n, isNon_i, isNon_s, isNon_t, isNon_l, v_tup, forL_0, kL_nx, kL_ct, kL_bk, kL_rt, kL_ex, tg_n, tg_t, tg_0, tg_s, wp_0, wp_s, bk_0, bk_s, rd_0, rd_s, sb_a, sb_l, si_a, si_l, hd_0, out_t, out_f, argD, ite_self, List.map_cons, List.map_nil, List.append_nil, List.cons_append, List.nil_append, Bool.and_true, Bool.true_and, Bool.not_true, Bool.not_false, Bool.and_false, Bool.false_and, true_and, and_true, decide_eq_true_eq, Bool.false_eq_true, if_false, if_true, ite_true, ite_false, reduceIte, Bool.not_eq_true', Bool.true_eq_false, eq_self, el, h1, decide_true, decide_false, hb]
      rfl
end K12
namespace K12
open PySem PD SX
abbrev Sp := List (Int × Int)
def pr (q : Int × Int) : D := .tup [.int q.1, .int q.2]
abbrev spD (m : Fl) (xs : Sp) : D := .lst m (xs.map pr)
theorem cap_pr (q : Int × Int) : cap (pr q) = pr q := rfl
inductive Row where
  | two (a b : Int) | one (a : Int) | li (a b : Int) | tru (b : Int)
def enc : Row → D
  | .two a b => .tup [.int a, .int b]
  | .one a => .tup [.int a]
  | .li a b => .lst .f [.int a, .int b]
  | .tru b => .tup [.bl true, .int b]
abbrev rwD (m : Fl) (xs : List Row) : D := .lst m (xs.map enc)
/-- a thing that is gone through -/
structure Sq (d : D) (xs : List D) : Prop where
  its : itemsOf d = some xs
  len : gLen [d] = some (.int xs.length)
  own : owned d = false
  lnd : lend d = d
theorem Sq.l {xs : List D} : Sq (.lst .l xs) xs := ⟨rfl, rfl, rfl, rfl⟩
theorem Sq.f {xs : List D} : Sq (.lst .f xs) xs := ⟨rfl, rfl, rfl, rfl⟩
theorem Sq.t {xs : List D} : Sq (.tup xs) xs := ⟨rfl, rfl, rfl, rfl⟩
def goodL (l : Int) : List Row → Bool
  | [] => true
  | .two a b :: r => decide (l + 2 ≤ a) && (decide (a ≤ b) && (decide (b ≤ 20000) && (decide (0 ≤ a) && goodL b r)))
  | _ :: _ => false
def goodR (xs : List Row) : Bool := goodL (-2) xs && decide (xs.length ≤ 60)
theorem snocR (acc : List Row) (r : Row) : acc.map enc ++ [enc r] = (acc ++ [r]).map enc := by rw [List.map_append]; rfl
theorem lp_good {d : D} {K : ES → Prop} : ∀ (xs : List Row) (l : Int) (a b : Option D), (∀ l' a b, K (if goodL l xs = true then (.nx, [some d, some (.int l'), a, b]) else (.rt (.bl false), [some d, some (.int l'), a, b]))) → has (evForL (tgName 2) bd__law_good_2 (xs.map enc) [some d, some (.int l), a, b]) K
  | [], l, a, b, h => by simp only [e_cst, e_nil, e_yes, e_var, e_fv, e_mv, e_cons, e_dfr, e_op, e_tup, e_lst, e_tr, e_notT, e_andT, e_orT, e_andV, e_orV, e_notV, e_opq, e_if, e_call, e_callM, e_chain, e_src, e_rng, e_lc, g_nx, g_retN, g_brk, g_cnt, g_seq, g_drop, g_ret, g_asg, g_if, g_for, g_app, g_set, kk_ok, kS_ok, kQ_nx, kQ_rt, kQ_bk, kQ_ct, kk_ex, kS_ex, kQ_ex, g_raise, e_isi, g_asgT, e_grd, g_try, g_tryAs, g_appT, e_chainN, lkQ_1, lkQ_2, noX_rt, noX_nx, noX_bk, noX_ct, hdQ_0, hdQ_s, tryQ_ex, tryQ_rt, tryQ_nx, tryQ_bk, tryQ_ct, tasQ_ex, tasQ_rt, tasQ_nx, tasQ_bk, tasQ_ct, has_some, sl_0, sl_s, st_0, st_s, v_add, v_sub, v_neg, v_lt, v_le, v_gt, v_ge, v_eqi, v_nei, v_is, v_isNot, v_len, v_lenT, v_abs, v_int, v_item, v_itemT, v_list, v_max, v_min, v_repr, blD_bl, truD_bl, truD_lst, isF_int, isF_bl, isF_non, isF_tup, isF_str, isF_lf, isF_lk, isF_lo, isF_ll, at_0, at_1, at_2, ix_0, ix_1, ix_2, cap_i, cap_t, noL_i, noL_n, noL_b, noL_t, ck_0, ck_s, lk_0, lk_1, lk_2, lk_3, lk_4, ln_0, ln_1, ln_2, ln_3, ln_4, own_o, own_l, own_f, its_o, its_l, its_f, lend_o, lend_i, lend_b, lend_n, lend_s, lend_t, cap_k, cap_f, lend_l, lend_f, sh_o, sh_l, sh_f, sh_k, Bool.or_true, Bool.true_or, Bool.or_false, Bool.false_or, intD, isLst, lstO, List.set_cons_zero, List.set_cons_succ, bind_S, ty_i, ty_b, ty_s, ty_t, ty_l, ty_n, is_ii, is_ib, is_is, is_it, is_il, is_bi, is_bb, is_bs, is_bt, is_bl, is_si, is_sb, is_ss, is_st, is_sl, is_ti, is_tb, is_ts, is_tt, is_tl, is_li, is_lb, is_ls, is_lt, is_ll, is_ni, is_nb, is_ns, is_nt, is_nl, v_eqS, v_neS, v_inS, v_notInS, truD_n, truD_t, cap_s, cap_n, cap_b, noL_s, its_t, own_t, own_s, its_s, sv_n, sv_i, sv_s, sv_b, isStr_s, isNon_n, isNon_i, isNon_s, isNon_t, isNon_l, v_tup, forL_0, kL_nx, kL_ct, kL_bk, kL_rt, kL_ex, tg_n, tg_t, tg_0, tg_s, wp_0, wp_s, bk_0, bk_s, rd_0, rd_s, sb_a, sb_l, si_a, si_l, hd_0, out_t, out_f, argD, ite_self, List.map_cons, List.map_nil, List.append_nil, List.cons_append, List.nil_append, Bool.and_true, Bool.true_and, Bool.not_true, Bool.not_false, Bool.and_false, Bool.false_and, true_and, and_true, decide_eq_true_eq, Bool.false_eq_true, if_false, if_true, ite_true, ite_false, reduceIte, Bool.not_eq_true', Bool.true_eq_false, eq_self]; exact h l a b
  | .li x y :: r, l, a, b, h => by
    simp only [goodL, Bool.false_eq_true, if_false] at h
    simp only [List.map_cons, forL_s, enc, bd__law_good_2, e_cst, e_nil, e_yes, e_var, e_fv, e_mv, e_cons, e_dfr, e_op, e_tup, e_lst, e_tr, e_notT, e_andT, e_orT, e_andV, e_orV, e_notV, e_opq, e_if, e_call, e_callM, e_chain, e_src, e_rng, e_lc, g_nx, g_retN, g_brk, g_cnt, g_seq, g_drop, g_ret, g_asg, g_if, g_for, g_app, g_set, kk_ok, kS_ok, kQ_nx, kQ_rt, kQ_bk, kQ_ct, kk_ex, kS_ex, kQ_ex, g_raise, e_isi, g_asgT, e_grd, g_try, g_tryAs, g_appT, e_chainN, lkQ_1, lkQ_2, noX_rt, noX_nx, noX_bk, noX_ct, hdQ_0, hdQ_s, tryQ_ex, tryQ_rt, tryQ_nx, tryQ_bk, tryQ_ct, tasQ_ex, tasQ_rt, tasQ_nx, tasQ_bk, tasQ_ct, has_some, sl_0, sl_s, st_0, st_s, v_add, v_sub, v_neg, v_lt, v_le, v_gt, v_ge, v_eqi, v_nei, v_is, v_isNot, v_len, v_lenT, v_abs, v_int, v_item, v_itemT, v_list, v_max, v_min, v_repr, blD_bl, truD_bl, truD_lst, isF_int, isF_bl, isF_non, isF_tup, isF_str, isF_lf, isF_lk, isF_lo, isF_ll, at_0, at_1, at_2, ix_0, ix_1, ix_2, cap_i, cap_t, noL_i, noL_n, noL_b, noL_t, ck_0, ck_s, lk_0, lk_1, lk_2, lk_3, lk_4, ln_0, ln_1, ln_2, ln_3, ln_4, own_o, own_l, own_f, its_o, its_l, its_f, lend_o, lend_i, lend_b, lend_n, lend_s, lend_t, cap_k, cap_f, lend_l, lend_f, sh_o, sh_l, sh_f, sh_k, Bool.or_true, Bool.true_or, Bool.or_false, Bool.false_or, intD, isLst, lstO, List.set_cons_zero, List.set_cons_succ, bind_S, ty_i, ty_b, ty_s, ty_t, ty_l, ty_n, is_ii, is_ib, is_is, is_it, is_il, is_bi, is_bb, is_bs, is_bt, is_bl, is_si, is_sb, is_ss, is_st, is_sl, is_ti, is_tb, is_ts, is_tt, is_tl, is_li, is_lb, is_ls, is_lt, is_ll, is_ni, is_nb, is_ns, is_nt, is_nl, v_eqS, v_neS, v_inS, v_notInS, truD_n, truD_t, cap_s, cap_n, cap_b, noL_s, its_t, own_t, own_s, its_s, sv_n, sv_i, sv_s, sv_b, isStr_s, isNon_n, isNon_i, isNon_s, isNon_t, isNon_l, v_tup, forL_0, kL_nx, kL_ct, kL_bk, kL_rt, kL_ex, tg_n, tg_t, tg_0, tg_s, wp_0, wp_s, bk_0, bk_s, rd_0, rd_s, sb_a, sb_l, si_a, si_l, hd_0, out_t, out_f, argD, ite_self, List.map_cons, List.map_nil, List.append_nil, List.cons_append, List.nil_append, Bool.and_true, Bool.true_and, Bool.not_true, Bool.not_false, Bool.and_false, Bool.false_and, true_and, and_true, decide_eq_true_eq, Bool.false_eq_true, if_false, if_true, ite_true, ite_false, reduceIte, Bool.not_eq_true', Bool.true_eq_false, eq_self]
    exact h _ _ _
  | .one x :: r, l, a, b, h => by
    simp only [goodL, Bool.false_eq_true, if_false] at h
    have e : gNe [.int ([D.int x].length : Int), .int 2] = some (.bl true) := by rfl
    simp only [List.map_cons, forL_s, enc, bd__law_good_2, e_cst, e_nil, e_yes, e_var, e_fv, e_mv, e_cons, e_dfr, e_op, e_tup, e_lst, e_tr, e_notT, e_andT, e_orT, e_andV, e_orV, e_notV, e_opq, e_if, e_call, e_callM, e_chain, e_src, e_rng, e_lc, g_nx, g_retN, g_brk, g_cnt, g_seq, g_drop, g_ret, g_asg, g_if, g_for, g_app, g_set, kk_ok, kS_ok, kQ_nx, kQ_rt, kQ_bk, kQ_ct, kk_ex, kS_ex, kQ_ex, g_raise, e_isi, g_asgT, e_grd, g_try, g_tryAs, g_appT, e_chainN, lkQ_1, lkQ_2, noX_rt, noX_nx, noX_bk, noX_ct, hdQ_0, hdQ_s, tryQ_ex, tryQ_rt, tryQ_nx, tryQ_bk, tryQ_ct, tasQ_ex, tasQ_rt, tasQ_nx, tasQ_bk, tasQ_ct, has_some, sl_0, sl_s, st_0, st_s, v_add, v_sub, v_neg, v_lt, v_le, v_gt, v_ge, v_eqi, v_nei, v_is, v_isNot, v_len, v_lenT, v_abs, v_int, v_item, v_itemT, v_list, v_max, v_min, v_repr, blD_bl, truD_bl, truD_lst, isF_int, isF_bl, isF_non, isF_tup, isF_str, isF_lf, isF_lk, isF_lo, isF_ll, at_0, at_1, at_2, ix_0, ix_1, ix_2, cap_i, cap_t, noL_i, noL_n, noL_b, noL_t, ck_0, ck_s, lk_0, lk_1, lk_2, lk_3, lk_4, ln_0, ln_1, ln_2, ln_3, ln_4, own_o, own_l, own_f, its_o, its_l, its_f, lend_o, lend_i, lend_b, lend_n, lend_s, lend_t, cap_k, cap_f, lend_l, lend_f, sh_o, sh_l, sh_f, sh_k, Bool.or_true, Bool.true_or, Bool.or_false, Bool.false_or, intD, isLst, lstO, List.set_cons_zero, List.set_cons_succ, bind_S, ty_i, ty_b, ty_s, ty_t, ty_l, ty_n, is_ii, is_ib, is_is, is_it, is_il, is_bi, is_bb, is_bs, is_bt, is_bl, is_si, is_sb, is_ss, is_st, is_sl, is_ti, is_tb, is_ts, is_tt, is_tl, is_li, is_lb, is_ls, is_lt, is_ll, is_ni, is_nb, is_ns, is_nt, is_nl, v_eqS, v_neS, v_inS, v_notInS, truD_n, truD_t, cap_s, cap_n, cap_b, noL_s, its_t, own_t, own_s, its_s, sv_n, sv_i, sv_s, sv_b, isStr_s, isNon_n, isNon_i, isNon_s, isNon_t, isNon_l, v_tup, forL_0, kL_nx, kL_ct, kL_bk, kL_rt, kL_ex, tg_n, tg_t, tg_0, tg_s, wp_0, wp_s, bk_0, bk_s, rd_0, rd_s, sb_a, sb_l, si_a, si_l, hd_0, out_t, out_f, argD, ite_self, List.map_cons, List.map_nil, List.append_nil, List.cons_append, List.nil_append, Bool.and_true, Bool.true_and, Bool.not_true, Bool.not_false, Bool.and_false, Bool.false_and, true_and, and_true, decide_eq_true_eq, Bool.false_eq_true, if_false, if_true, ite_true, ite_false, reduceIte, Bool.not_eq_true', Bool.true_eq_false, eq_self]
    rw [show (decide ((([D.int x].length : Nat) : Int) = 2)) = false from rfl]
    simp only [e_cst, e_nil, e_yes, e_var, e_fv, e_mv, e_cons, e_dfr, e_op, e_tup, e_lst, e_tr, e_notT, e_andT, e_orT, e_andV, e_orV, e_notV, e_opq, e_if, e_call, e_callM, e_chain, e_src, e_rng, e_lc, g_nx, g_retN, g_brk, g_cnt, g_seq, g_drop, g_ret, g_asg, g_if, g_for, g_app, g_set, kk_ok, kS_ok, kQ_nx, kQ_rt, kQ_bk, kQ_ct, kk_ex, kS_ex, kQ_ex, g_raise, e_isi, g_asgT, e_grd, g_try, g_tryAs, g_appT, e_chainN, lkQ_1, lkQ_2, noX_rt, noX_nx, noX_bk, noX_ct, hdQ_0, hdQ_s, tryQ_ex, tryQ_rt, tryQ_nx, tryQ_bk, tryQ_ct, tasQ_ex, tasQ_rt, tasQ_nx, tasQ_bk, tasQ_ct, has_some, sl_0, sl_s, st_0, st_s, v_add, v_sub, v_neg, v_lt, v_le, v_gt, v_ge, v_eqi, v_nei, v_is, v_isNot, v_len, v_lenT, v_abs, v_int, v_item, v_itemT, v_list, v_max, v_min, v_repr, blD_bl, truD_bl, truD_lst, isF_int, isF_bl, isF_non, isF_tup, isF_str, isF_lf, isF_lk, isF_lo, isF_ll, at_0, at_1, at_2, ix_0, ix_1, ix_2, cap_i, cap_t, noL_i, noL_n, noL_b, noL_t, ck_0, ck_s, lk_0, lk_1, lk_2, lk_3, lk_4, ln_0, ln_1, ln_2, ln_3, ln_4, own_o, own_l, own_f, its_o, its_l, its_f, lend_o, lend_i, lend_b, lend_n, lend_s, lend_t, cap_k, cap_f, lend_l, lend_f, sh_o, sh_l, sh_f, sh_k, Bool.or_true, Bool.true_or, Bool.or_false, Bool.false_or, intD, isLst, lstO, List.set_cons_zero, List.set_cons_succ, bind_S, ty_i, ty_b, ty_s, ty_t, ty_l, ty_n, is_ii, is_ib, is_is, is_it, is_il, is_bi, is_bb, is_bs, is_bt, is_bl, is_si, is_sb, is_ss, is_st, is_sl, is_ti, is_tb, is_ts, is_tt, is_tl, is_li, is_lb, is_ls, is_lt, is_ll, is_ni, is_nb, is_ns, is_nt, is_nl, v_eqS, v_neS, v_inS, v_notInS, truD_n, truD_t, cap_s, cap_n, cap_b, noL_s, its_t, own_t, own_s, its_s, sv_n, sv_i, sv_s, sv_b, isStr_s, isNon_n, isNon_i, isNon_s, isNon_t, isNon_l, v_tup, forL_0, kL_nx, kL_ct, kL_bk, kL_rt, kL_ex, tg_n, tg_t, tg_0, tg_s, wp_0, wp_s, bk_0, bk_s, rd_0, rd_s, sb_a, sb_l, si_a, si_l, hd_0, out_t, out_f, argD, ite_self, List.map_cons, List.map_nil, List.append_nil, List.cons_append, List.nil_append, Bool.and_true, Bool.true_and, Bool.not_true, Bool.not_false, Bool.and_false, Bool.false_and, true_and, and_true, decide_eq_true_eq, Bool.false_eq_true, if_false, if_true, ite_true, ite_false, reduceIte, Bool.not_eq_true', Bool.true_eq_false, eq_self]
    exact h _ _ _
  | .tru y :: r, l, a, b, h => by
    simp only [goodL, Bool.false_eq_true, if_false] at h
    simp only [List.map_cons, forL_s, enc, bd__law_good_2, e_cst, e_nil, e_yes, e_var, e_fv, e_mv, e_cons, e_dfr, e_op, e_tup, e_lst, e_tr, e_notT, e_andT, e_orT, e_andV, e_orV, e_notV, e_opq, e_if, e_call, e_callM, e_chain, e_src, e_rng, e_lc, g_nx, g_retN, g_brk, g_cnt, g_seq, g_drop, g_ret, g_asg, g_if, g_for, g_app, g_set, kk_ok, kS_ok, kQ_nx, kQ_rt, kQ_bk, kQ_ct, kk_ex, kS_ex, kQ_ex, g_raise, e_isi, g_asgT, e_grd, g_try, g_tryAs, g_appT, e_chainN, lkQ_1, lkQ_2, noX_rt, noX_nx, noX_bk, noX_ct, hdQ_0, hdQ_s, tryQ_ex, tryQ_rt, tryQ_nx, tryQ_bk, tryQ_ct, tasQ_ex, tasQ_rt, tasQ_nx, tasQ_bk, tasQ_ct, has_some, sl_0, sl_s, st_0, st_s, v_add, v_sub, v_neg, v_lt, v_le, v_gt, v_ge, v_eqi, v_nei, v_is, v_isNot, v_len, v_lenT, v_abs, v_int, v_item, v_itemT, v_list, v_max, v_min, v_repr, blD_bl, truD_bl, truD_lst, isF_int, isF_bl, isF_non, isF_tup, isF_str, isF_lf, isF_lk, isF_lo, isF_ll, at_0, at_1, at_2, ix_0, ix_1, ix_2, cap_i, cap_t, noL_i, noL_n, noL_b, noL_t, ck_0, ck_s, lk_0, lk_1, lk_2, lk_3, lk_4, ln_0, ln_1, ln_2, ln_3, ln_4, own_o, own_l, own_f, its_o, its_l, its_f, lend_o, lend_i, lend_b, lend_n, lend_s, lend_t, cap_k, cap_f, lend_l, lend_f, sh_o, sh_l, sh_f, sh_k, Bool.or_true, Bool.true_or, Bool.or_false, Bool.false_or, intD, isLst, lstO, List.set_cons_zero, List.set_cons_succ, bind_S, ty_i, ty_b, ty_s, ty_t, ty_l, ty_n, is_ii, is_ib, is_is, is_it, is_il, is_bi, is_bb, is_bs, is_bt, is_bl, is_si, is_sb, is_ss, is_st, is_sl, is_ti, is_tb, is_ts, is_tt, is_tl, is_li, is_lb, is_ls, is_lt, is_ll, is_ni, is_nb, is_ns, is_nt, is_nl, v_eqS, v_neS, v_inS, v_notInS, truD_n, truD_t, cap_s, cap_n, cap_b, noL_s, its_t, own_t, own_s, its_s, sv_n, sv_i, sv_s, sv_b, isStr_s, isNon_n, isNon_i, isNon_s, isNon_t, isNon_l, v_tup, forL_0, kL_nx, kL_ct, kL_bk, kL_rt, kL_ex, tg_n, tg_t, tg_0, tg_s, wp_0, wp_s, bk_0, bk_s, rd_0, rd_s, sb_a, sb_l, si_a, si_l, hd_0, out_t, out_f, argD, ite_self, List.map_cons, List.map_nil, List.append_nil, List.cons_append, List.nil_append, Bool.and_true, Bool.true_and, Bool.not_true, Bool.not_false, Bool.and_false, Bool.false_and, true_and, and_true, decide_eq_true_eq, Bool.false_eq_true, if_false, if_true, ite_true, ite_false, reduceIte, Bool.not_eq_true', Bool.true_eq_false, eq_self]
    rw [show (decide ((([D.bl true, D.int y].length : Nat) : Int) = 2)) = true from rfl]
    simp only [e_cst, e_nil, e_yes, e_var, e_fv, e_mv, e_cons, e_dfr, e_op, e_tup, e_lst, e_tr, e_notT, e_andT, e_orT, e_andV, e_orV, e_notV, e_opq, e_if, e_call, e_callM, e_chain, e_src, e_rng, e_lc, g_nx, g_retN, g_brk, g_cnt, g_seq, g_drop, g_ret, g_asg, g_if, g_for, g_app, g_set, kk_ok, kS_ok, kQ_nx, kQ_rt, kQ_bk, kQ_ct, kk_ex, kS_ex, kQ_ex, g_raise, e_isi, g_asgT, e_grd, g_try, g_tryAs, g_appT, e_chainN, lkQ_1, lkQ_2, noX_rt, noX_nx, noX_bk, noX_ct, hdQ_0, hdQ_s, tryQ_ex, tryQ_rt, tryQ_nx, tryQ_bk, tryQ_ct, tasQ_ex, tasQ_rt, tasQ_nx, tasQ_bk, tasQ_ct, has_some, sl_0, sl_s, st_0, st_s, v_add, v_sub, v_neg, v_lt, v_le, v_gt, v_ge, v_eqi, v_nei, v_is, v_isNot, v_len, v_lenT, v_abs, v_int, v_item, v_itemT, v_list, v_max, v_min, v_repr, blD_bl, truD_bl, truD_lst, isF_int, isF_bl, isF_non, isF_tup, isF_str, isF_lf, isF_lk, isF_lo, isF_ll, at_0, at_1, at_2, ix_0, ix_1, ix_2, cap_i, cap_t, noL_i, noL_n, noL_b, noL_t, ck_0, ck_s, lk_0, lk_1, lk_2, lk_3, lk_4, ln_0, ln_1, ln_2, ln_3, ln_4, own_o, own_l, own_f, its_o, its_l, its_f, lend_o, lend_i, lend_b, lend_n, lend_s, lend_t, cap_k, cap_f, lend_l, lend_f, sh_o, sh_l, sh_f, sh_k, Bool.or_true, Bool.true_or, Bool.or_false, Bool.false_or, intD, isLst, lstO, List.set_cons_zero, List.set_cons_succ, bind_S, ty_i, ty_b, ty_s, ty_t, ty_l, ty_n, is_ii, is_ib, is_is, is_it, is_il, is_bi, is_bb, is_bs, is_bt, is_bl, is_si, is_sb, is_ss, is_st, is_sl, is_ti, is_tb, is_ts, is_tt, is_tl, is_li, is_lb, is_ls, is_lt, is_ll, is_ni, is_nb, is_ns, is_nt, is_nl, v_eqS, v_neS, v_inS, v_notInS, truD_n, truD_t, cap_s, cap_n, cap_b, noL_s, its_t, own_t, own_s, its_s, sv_n, sv_i, sv_s, sv_b, isStr_s, isNon_n, isNon_i, isNon_s, isNon_t, isNon_l, v_tup, forL_0, kL_nx, kL_ct, kL_bk, kL_rt, kL_ex, tg_n, tg_t, tg_0, tg_s, wp_0, wp_s, bk_0, bk_s, rd_0, rd_s, sb_a, sb_l, si_a, si_l, hd_0, out_t, out_f, argD, ite_self, List.map_cons, List.map_nil, List.append_nil, List.cons_append, List.nil_append, Bool.and_true, Bool.true_and, Bool.not_true, Bool.not_false, Bool.and_false, Bool.false_and, true_and, and_true, decide_eq_true_eq, Bool.false_eq_true, if_false, if_true, ite_true, ite_false, reduceIte, Bool.not_eq_true', Bool.true_eq_false, eq_self]
    refine has_cmpD (fun q => match q with | .int _ => false | _ => true) (fun q => q) [.bl true, .int y] (by simp) (fun q hq => ?_) ?_
    · rcases List.mem_cons.mp hq with rfl | hq
      · simp only [ct__law_good_0, ce__law_good_1, e_cst, e_nil, e_yes, e_var, e_fv, e_mv, e_cons, e_dfr, e_op, e_tup, e_lst, e_tr, e_notT, e_andT, e_orT, e_andV, e_orV, e_notV, e_opq, e_if, e_call, e_callM, e_chain, e_src, e_rng, e_lc, g_nx, g_retN, g_brk, g_cnt, g_seq, g_drop, g_ret, g_asg, g_if, g_for, g_app, g_set, kk_ok, kS_ok, kQ_nx, kQ_rt, kQ_bk, kQ_ct, kk_ex, kS_ex, kQ_ex, g_raise, e_isi, g_asgT, e_grd, g_try, g_tryAs, g_appT, e_chainN, lkQ_1, lkQ_2, noX_rt, noX_nx, noX_bk, noX_ct, hdQ_0, hdQ_s, tryQ_ex, tryQ_rt, tryQ_nx, tryQ_bk, tryQ_ct, tasQ_ex, tasQ_rt, tasQ_nx, tasQ_bk, tasQ_ct, has_some, sl_0, sl_s, st_0, st_s, v_add, v_sub, v_neg, v_lt, v_le, v_gt, v_ge, v_eqi, v_nei, v_is, v_isNot, v_len, v_lenT, v_abs, v_int, v_item, v_itemT, v_list, v_max, v_min, v_repr, blD_bl, truD_bl, truD_lst, isF_int, isF_bl, isF_non, isF_tup, isF_str, isF_lf, isF_lk, isF_lo, isF_ll, at_0, at_1, at_2, ix_0, ix_1, ix_2, cap_i, cap_t, noL_i, noL_n, noL_b, noL_t, ck_0, ck_s, lk_0, lk_1, lk_2, lk_3, lk_4, ln_0, ln_1, ln_2, ln_3, ln_4, own_o, own_l, own_f, its_o, its_l, its_f, lend_o, lend_i, lend_b, lend_n, lend_s, lend_t, cap_k, cap_f, lend_l, lend_f, sh_o, sh_l, sh_f, sh_k, Bool.or_true, Bool.true_or, Bool.or_false, Bool.false_or, intD, isLst, lstO, List.set_cons_zero, List.set_cons_succ, bind_S, ty_i, ty_b, ty_s, ty_t, ty_l, ty_n, is_ii, is_ib, is_is, is_it, is_il, is_bi, is_bb, is_bs, is_bt, is_bl, is_si, is_sb, is_ss, is_st, is_sl, is_ti, is_tb, is_ts, is_tt, is_tl, is_li, is_lb, is_ls, is_lt, is_ll, is_ni, is_nb, is_ns, is_nt, is_nl, v_eqS, v_neS, v_inS, v_notInS, truD_n, truD_t, cap_s, cap_n, cap_b, noL_s, its_t, own_t, own_s, its_s, sv_n, sv_i, sv_s, sv_b, isStr_s, isNon_n, isNon_i, isNon_s, isNon_t, isNon_l, v_tup, forL_0, kL_nx, kL_ct, kL_bk, kL_rt, kL_ex, tg_n, tg_t, tg_0, tg_s, wp_0, wp_s, bk_0, bk_s, rd_0, rd_s, sb_a, sb_l, si_a, si_l, hd_0, out_t, out_f, argD, ite_self, List.map_cons, List.map_nil, List.append_nil, List.cons_append, List.nil_append, Bool.and_true, Bool.true_and, Bool.not_true, Bool.not_false, Bool.and_false, Bool.false_and, true_and, and_true, decide_eq_true_eq, Bool.false_eq_true, if_false, if_true, ite_true, ite_false, reduceIte, Bool.not_eq_true', Bool.true_eq_false, eq_self]
      · rcases List.mem_cons.mp hq with rfl | hq
        · simp only [ct__law_good_0, ce__law_good_1, e_cst, e_nil, e_yes, e_var, e_fv, e_mv, e_cons, e_dfr, e_op, e_tup, e_lst, e_tr, e_notT, e_andT, e_orT, e_andV, e_orV, e_notV, e_opq, e_if, e_call, e_callM, e_chain, e_src, e_rng, e_lc, g_nx, g_retN, g_brk, g_cnt, g_seq, g_drop, g_ret, g_asg, g_if, g_for, g_app, g_set, kk_ok, kS_ok, kQ_nx, kQ_rt, kQ_bk, kQ_ct, kk_ex, kS_ex, kQ_ex, g_raise, e_isi, g_asgT, e_grd, g_try, g_tryAs, g_appT, e_chainN, lkQ_1, lkQ_2, noX_rt, noX_nx, noX_bk, noX_ct, hdQ_0, hdQ_s, tryQ_ex, tryQ_rt, tryQ_nx, tryQ_bk, tryQ_ct, tasQ_ex, tasQ_rt, tasQ_nx, tasQ_bk, tasQ_ct, has_some, sl_0, sl_s, st_0, st_s, v_add, v_sub, v_neg, v_lt, v_le, v_gt, v_ge, v_eqi, v_nei, v_is, v_isNot, v_len, v_lenT, v_abs, v_int, v_item, v_itemT, v_list, v_max, v_min, v_repr, blD_bl, truD_bl, truD_lst, isF_int, isF_bl, isF_non, isF_tup, isF_str, isF_lf, isF_lk, isF_lo, isF_ll, at_0, at_1, at_2, ix_0, ix_1, ix_2, cap_i, cap_t, noL_i, noL_n, noL_b, noL_t, ck_0, ck_s, lk_0, lk_1, lk_2, lk_3, lk_4, ln_0, ln_1, ln_2, ln_3, ln_4, own_o, own_l, own_f, its_o, its_l, its_f, lend_o, lend_i, lend_b, lend_n, lend_s, lend_t, cap_k, cap_f, lend_l, lend_f, sh_o, sh_l, sh_f, sh_k, Bool.or_true, Bool.true_or, Bool.or_false, Bool.false_or, intD, isLst, lstO, List.set_cons_zero, List.set_cons_succ, bind_S, ty_i, ty_b, ty_s, ty_t, ty_l, ty_n, is_ii, is_ib, is_is, is_it, is_il, is_bi, is_bb, is_bs, is_bt, is_bl, is_si, is_sb, is_ss, is_st, is_sl, is_ti, is_tb, is_ts, is_tt, is_tl, is_li, is_lb, is_ls, is_lt, is_ll, is_ni, is_nb, is_ns, is_nt, is_nl, v_eqS, v_neS, v_inS, v_notInS, truD_n, truD_t, cap_s, cap_n, cap_b, noL_s, its_t, own_t, own_s, its_s, sv_n, sv_i, sv_s, sv_b, isStr_s, isNon_n, isNon_i, isNon_s, isNon_t, isNon_l, v_tup, forL_0, kL_nx, kL_ct, kL_bk, kL_rt, kL_ex, tg_n, tg_t, tg_0, tg_s, wp_0, wp_s, bk_0, bk_s, rd_0, rd_s, sb_a, sb_l, si_a, si_l, hd_0, out_t, out_f, argD, ite_self, List.map_cons, List.map_nil, List.append_nil, List.cons_append, List.nil_append, Bool.and_true, Bool.true_and, Bool.not_true, Bool.not_false, Bool.and_false, Bool.false_and, true_and, and_true, decide_eq_true_eq, Bool.false_eq_true, if_false, if_true, ite_true, ite_false, reduceIte, Bool.not_eq_true', Bool.true_eq_false, eq_self]
        · simp at hq
    · simp only [e_cst, e_nil, e_yes, e_var, e_fv, e_mv, e_cons, e_dfr, e_op, e_tup, e_lst, e_tr, e_notT, e_andT, e_orT, e_andV, e_orV, e_notV, e_opq, e_if, e_call, e_callM, e_chain, e_src, e_rng, e_lc, g_nx, g_retN, g_brk, g_cnt, g_seq, g_drop, g_ret, g_asg, g_if, g_for, g_app, g_set, kk_ok, kS_ok, kQ_nx, kQ_rt, kQ_bk, kQ_ct, kk_ex, kS_ex, kQ_ex, g_raise, e_isi, g_asgT, e_grd, g_try, g_tryAs, g_appT, e_chainN, lkQ_1, lkQ_2, noX_rt, noX_nx, noX_bk, noX_ct, hdQ_0, hdQ_s, tryQ_ex, tryQ_rt, tryQ_nx, tryQ_bk, tryQ_ct, tasQ_ex, tasQ_rt, tasQ_nx, tasQ_bk, tasQ_ct, has_some, sl_0, sl_s, st_0, st_s, v_add, v_sub, v_neg, v_lt, v_le, v_gt, v_ge, v_eqi, v_nei, v_is, v_isNot, v_len, v_lenT, v_abs, v_int, v_item, v_itemT, v_list, v_max, v_min, v_repr, blD_bl, truD_bl, truD_lst, isF_int, isF_bl, isF_non, isF_tup, isF_str, isF_lf, isF_lk, isF_lo, isF_ll, at_0, at_1, at_2, ix_0, ix_1, ix_2, cap_i, cap_t, noL_i, noL_n, noL_b, noL_t, ck_0, ck_s, lk_0, lk_1, lk_2, lk_3, lk_4, ln_0, ln_1, ln_2, ln_3, ln_4, own_o, own_l, own_f, its_o, its_l, its_f, lend_o, lend_i, lend_b, lend_n, lend_s, lend_t, cap_k, cap_f, lend_l, lend_f, sh_o, sh_l, sh_f, sh_k, Bool.or_true, Bool.true_or, Bool.or_false, Bool.false_or, intD, isLst, lstO, List.set_cons_zero, List.set_cons_succ, bind_S, ty_i, ty_b, ty_s, ty_t, ty_l, ty_n, is_ii, is_ib, is_is, is_it, is_il, is_bi, is_bb, is_bs, is_bt, is_bl, is_si, is_sb, is_ss, is_st, is_sl, is_ti, is_tb, is_ts, is_tt, is_tl, is_li, is_lb, is_ls, is_lt, is_ll, is_ni, is_nb, is_ns, is_nt, is_nl, v_eqS, v_neS, v_inS, v_notInS, truD_n, truD_t, cap_s, cap_n, cap_b, noL_s, its_t, own_t, own_s, its_s, sv_n, sv_i, sv_s, sv_b, isStr_s, isNon_n, isNon_i, isNon_s, isNon_t, isNon_l, v_tup, forL_0, kL_nx, kL_ct, kL_bk, kL_rt, kL_ex, tg_n, tg_t, tg_0, tg_s, wp_0, wp_s, bk_0, bk_s, rd_0, rd_s, sb_a, sb_l, si_a, si_l, hd_0, out_t, out_f, argD, ite_self, List.map_cons, List.map_nil, List.append_nil, List.cons_append, List.nil_append, Bool.and_true, Bool.true_and, Bool.not_true, Bool.not_false, Bool.and_false, Bool.false_and, true_and, and_true, decide_eq_true_eq, Bool.false_eq_true, if_false, if_true, ite_true, ite_false, reduceIte, Bool.not_eq_true', Bool.true_eq_false, eq_self, List.filter]
      exact h _ _ _
  | .two x y :: r, l, a, b, h => by
    simp only [List.map_cons, forL_s, enc, bd__law_good_2, e_cst, e_nil, e_yes, e_var, e_fv, e_mv, e_cons, e_dfr, e_op, e_tup, e_lst, e_tr, e_notT, e_andT, e_orT, e_andV, e_orV, e_notV, e_opq, e_if, e_call, e_callM, e_chain, e_src, e_rng, e_lc, g_nx, g_retN, g_brk, g_cnt, g_seq, g_drop, g_ret, g_asg, g_if, g_for, g_app, g_set, kk_ok, kS_ok, kQ_nx, kQ_rt, kQ_bk, kQ_ct, kk_ex, kS_ex, kQ_ex, g_raise, e_isi, g_asgT, e_grd, g_try, g_tryAs, g_appT, e_chainN, lkQ_1, lkQ_2, noX_rt, noX_nx, noX_bk, noX_ct, hdQ_0, hdQ_s, tryQ_ex, tryQ_rt, tryQ_nx, tryQ_bk, tryQ_ct, tasQ_ex, tasQ_rt, tasQ_nx, tasQ_bk, tasQ_ct, has_some, sl_0, sl_s, st_0, st_s, v_add, v_sub, v_neg, v_lt, v_le, v_gt, v_ge, v_eqi, v_nei, v_is, v_isNot, v_len, v_lenT, v_abs, v_int, v_item, v_itemT, v_list, v_max, v_min, v_repr, blD_bl, truD_bl, truD_lst, isF_int, isF_bl, isF_non, isF_tup, isF_str, isF_lf, isF_lk, isF_lo, isF_ll, at_0, at_1, at_2, ix_0, ix_1, ix_2, cap_i, cap_t, noL_i, noL_n, noL_b, noL_t, ck_0, ck_s, lk_0, lk_1, lk_2, lk_3, lk_4, ln_0, ln_1, ln_2, ln_3, ln_4, own_o, own_l, own_f, its_o, its_l, its_f, lend_o, lend_i, lend_b, lend_n, lend_s, lend_t, cap_k, cap_f, lend_l, lend_f, sh_o, sh_l, sh_f, sh_k, Bool.or_true, Bool.true_or, Bool.or_false, Bool.false_or, intD, isLst, lstO, List.set_cons_zero, List.set_cons_succ, bind_S, ty_i, ty_b, ty_s, ty_t, ty_l, ty_n, is_ii, is_ib, is_is, is_it, is_il, is_bi, is_bb, is_bs, is_bt, is_bl, is_si, is_sb, is_ss, is_st, is_sl, is_ti, is_tb, is_ts, is_tt, is_tl, is_li, is_lb, is_ls, is_lt, is_ll, is_ni, is_nb, is_ns, is_nt, is_nl, v_eqS, v_neS, v_inS, v_notInS, truD_n, truD_t, cap_s, cap_n, cap_b, noL_s, its_t, own_t, own_s, its_s, sv_n, sv_i, sv_s, sv_b, isStr_s, isNon_n, isNon_i, isNon_s, isNon_t, isNon_l, v_tup, forL_0, kL_nx, kL_ct, kL_bk, kL_rt, kL_ex, tg_n, tg_t, tg_0, tg_s, wp_0, wp_s, bk_0, bk_s, rd_0, rd_s, sb_a, sb_l, si_a, si_l, hd_0, out_t, out_f, argD, ite_self, List.map_cons, List.map_nil, List.append_nil, List.cons_append, List.nil_append, Bool.and_true, Bool.true_and, Bool.not_true, Bool.not_false, Bool.and_false, Bool.false_and, true_and, and_true, decide_eq_true_eq, Bool.false_eq_true, if_false, if_true, ite_true, ite_false, reduceIte, Bool.not_eq_true', Bool.true_eq_false, eq_self]
    rw [show (decide ((([D.int x, D.int y].length : Nat) : Int) = 2)) = true from rfl]
    simp only [e_cst, e_nil, e_yes, e_var, e_fv, e_mv, e_cons, e_dfr, e_op, e_tup, e_lst, e_tr, e_notT, e_andT, e_orT, e_andV, e_orV, e_notV, e_opq, e_if, e_call, e_callM, e_chain, e_src, e_rng, e_lc, g_nx, g_retN, g_brk, g_cnt, g_seq, g_drop, g_ret, g_asg, g_if, g_for, g_app, g_set, kk_ok, kS_ok, kQ_nx, kQ_rt, kQ_bk, kQ_ct, kk_ex, kS_ex, kQ_ex, g_raise, e_isi, g_asgT, e_grd, g_try, g_tryAs, g_appT, e_chainN, lkQ_1, lkQ_2, noX_rt, noX_nx, noX_bk, noX_ct, hdQ_0, hdQ_s, tryQ_ex, tryQ_rt, tryQ_nx, tryQ_bk, tryQ_ct, tasQ_ex, tasQ_rt, tasQ_nx, tasQ_bk, tasQ_ct, has_some, sl_0, sl_s, st_0, st_s, v_add, v_sub, v_neg, v_lt, v_le, v_gt, v_ge, v_eqi, v_nei, v_is, v_isNot, v_len, v_lenT, v_abs, v_int, v_item, v_itemT, v_list, v_max, v_min, v_repr, blD_bl, truD_bl, truD_lst, isF_int, isF_bl, isF_non, isF_tup, isF_str, isF_lf, isF_lk, isF_lo, isF_ll, at_0, at_1, at_2, ix_0, ix_1, ix_2, cap_i, cap_t, noL_i, noL_n, noL_b, noL_t, ck_0, ck_s, lk_0, lk_1, lk_2, lk_3, lk_4, ln_0, ln_1, ln_2, ln_3, ln_4, own_o, own_l, own_f, its_o, its_l, its_f, lend_o, lend_i, lend_b, lend_n, lend_s, lend_t, cap_k, cap_f, lend_l, lend_f, sh_o, sh_l, sh_f, sh_k, Bool.or_true, Bool.true_or, Bool.or_false, Bool.false_or, intD, isLst, lstO, List.set_cons_zero, List.set_cons_succ, bind_S, ty_i, ty_b, ty_s, ty_t, ty_l, ty_n, is_ii, is_ib, is_is, is_it, is_il, is_bi, is_bb, is_bs, is_bt, is_bl, is_si, is_sb, is_ss, is_st, is_sl, is_ti, is_tb, is_ts, is_tt, is_tl, is_li, is_lb, is_ls, is_lt, is_ll, is_ni, is_nb, is_ns, is_nt, is_nl, v_eqS, v_neS, v_inS, v_notInS, truD_n, truD_t, cap_s, cap_n, cap_b, noL_s, its_t, own_t, own_s, its_s, sv_n, sv_i, sv_s, sv_b, isStr_s, isNon_n, isNon_i, isNon_s, isNon_t, isNon_l, v_tup, forL_0, kL_nx, kL_ct, kL_bk, kL_rt, kL_ex, tg_n, tg_t, tg_0, tg_s, wp_0, wp_s, bk_0, bk_s, rd_0, rd_s, sb_a, sb_l, si_a, si_l, hd_0, out_t, out_f, argD, ite_self, List.map_cons, List.map_nil, List.append_nil, List.cons_append, List.nil_append, Bool.and_true, Bool.true_and, Bool.not_true, Bool.not_false, Bool.and_false, Bool.false_and, true_and, and_true, decide_eq_true_eq, Bool.false_eq_true, if_false, if_true, ite_true, ite_false, reduceIte, Bool.not_eq_true', Bool.true_eq_false, eq_self]
    refine has_cmpD (fun q => match q with | .int _ => false | _ => true) (fun q => q) [.int x, .int y] (by simp) (fun q hq => ?_) ?_
    · rcases List.mem_cons.mp hq with rfl | hq
      · simp only [ct__law_good_0, ce__law_good_1, e_cst, e_nil, e_yes, e_var, e_fv, e_mv, e_cons, e_dfr, e_op, e_tup, e_lst, e_tr, e_notT, e_andT, e_orT, e_andV, e_orV, e_notV, e_opq, e_if, e_call, e_callM, e_chain, e_src, e_rng, e_lc, g_nx, g_retN, g_brk, g_cnt, g_seq, g_drop, g_ret, g_asg, g_if, g_for, g_app, g_set, kk_ok, kS_ok, kQ_nx, kQ_rt, kQ_bk, kQ_ct, kk_ex, kS_ex, kQ_ex, g_raise, e_isi, g_asgT, e_grd, g_try, g_tryAs, g_appT, e_chainN, lkQ_1, lkQ_2, noX_rt, noX_nx, noX_bk, noX_ct, hdQ_0, hdQ_s, tryQ_ex, tryQ_rt, tryQ_nx, tryQ_bk, tryQ_ct, tasQ_ex, tasQ_rt, tasQ_nx, tasQ_bk, tasQ_ct, has_some, sl_0, sl_s, st_0, st_s, v_add, v_sub, v_neg, v_lt, v_le, v_gt, v_ge, v_eqi, v_nei, v_is, v_isNot, v_len, v_lenT, v_abs, v_int, v_item, v_itemT, v_list, v_max, v_min, v_repr, blD_bl, truD_bl, truD_lst, isF_int, isF_bl, isF_non, isF_tup, isF_str, isF_lf, isF_lk, isF_lo, isF_ll, at_0, at_1, at_2, ix_0, ix_1, ix_2, cap_i, cap_t, noL_i, noL_n, noL_b, noL_t, ck_0, ck_s, lk_0, lk_1, lk_2, lk_3, lk_4, ln_0, ln_1, ln_2, ln_3, ln_4, own_o, own_l, own_f, its_o, its_l, its_f, lend_o, lend_i, lend_b, lend_n, lend_s, lend_t, cap_k, cap_f, lend_l, lend_f, sh_o, sh_l, sh_f, sh_k, Bool.or_true, Bool.true_or, Bool.or_false, Bool.false_or, intD, isLst, lstO, List.set_cons_zero, List.set_cons_succ, bind_S, ty_i, ty_b, ty_s, ty_t, ty_l, ty_n, is_ii, is_ib, is_is, is_it, is_il, is_bi, is_bb, is_bs, is_bt, is_bl, is_si, is_sb, is_ss, is_st, is_sl, is_ti, is_tb, is_ts, is_tt, is_tl, is_li, is_lb, is_ls, is_lt, is_ll, is_ni, is_nb, is_ns, is_nt, is_nl, v_eqS, v_neS, v_inS, v_notInS, truD_n, truD_t, cap_s, cap_n, cap_b, noL_s, its_t, own_t, own_s, its_s, sv_n, sv_i, sv_s, sv_b, isStr_s, isNon_n, isNon_i, isNon_s, isNon_t, isNon_l, v_tup, forL_0, kL_nx, kL_ct, kL_bk, kL_rt, kL_ex, tg_n, tg_t, tg_0, tg_s, wp_0, wp_s, bk_0, bk_s, rd_0, rd_s, sb_a, sb_l, si_a, si_l, hd_0, out_t, out_f, argD, ite_self, List.map_cons, List.map_nil, List.append_nil, List.cons_append, List.nil_append, Bool.and_true, Bool.true_and, Bool.not_true, Bool.not_false, Bool.and_false, Bool.false_and, true_and, and_true, decide_eq_true_eq, Bool.false_eq_true, if_false, if_true, ite_true, ite_false, reduceIte, Bool.not_eq_true', Bool.true_eq_false, eq_self]
      · rcases List.mem_cons.mp hq with rfl | hq
        · simp only [ct__law_good_0, ce__law_good_1, e_cst, e_nil, e_yes, e_var, e_fv, e_mv, e_cons, e_dfr, e_op, e_tup, e_lst, e_tr, e_notT, e_andT, e_orT, e_andV, e_orV, e_notV, e_opq, e_if, e_call, e_callM, e_chain, e_src, e_rng, e_lc, g_nx, g_retN, g_brk, g_cnt, g_seq, g_drop, g_ret, g_asg, g_if, g_for, g_app, g_set, kk_ok, kS_ok, kQ_nx, kQ_rt, kQ_bk, kQ_ct, kk_ex, kS_ex, kQ_ex, g_raise, e_isi, g_asgT, e_grd, g_try, g_tryAs, g_appT, e_chainN, lkQ_1, lkQ_2, noX_rt, noX_nx, noX_bk, noX_ct, hdQ_0, hdQ_s, tryQ_ex, tryQ_rt, tryQ_nx, tryQ_bk, tryQ_ct, tasQ_ex, tasQ_rt, tasQ_nx, tasQ_bk, tasQ_ct, has_some, sl_0, sl_s, st_0, st_s, v_add, v_sub, v_neg, v_lt, v_le, v_gt, v_ge, v_eqi, v_nei, v_is, v_isNot, v_len, v_lenT, v_abs, v_int, v_item, v_itemT, v_list, v_max, v_min, v_repr, blD_bl, truD_bl, truD_lst, isF_int, isF_bl, isF_non, isF_tup, isF_str, isF_lf, isF_lk, isF_lo, isF_ll, at_0, at_1, at_2, ix_0, ix_1, ix_2, cap_i, cap_t, noL_i, noL_n, noL_b, noL_t, ck_0, ck_s, lk_0, lk_1, lk_2, lk_3, lk_4, ln_0, ln_1, ln_2, ln_3, ln_4, own_o, own_l, own_f, its_o, its_l, its_f, lend_o, lend_i, lend_b, lend_n, lend_s, lend_t, cap_k, cap_f, lend_l, lend_f, sh_o, sh_l, sh_f, sh_k, Bool.or_true, Bool.true_or, Bool.or_false, Bool.false_or, intD, isLst, lstO, List.set_cons_zero, List.set_cons_succ, bind_S, ty_i, ty_b, ty_s, ty_t, ty_l, ty_n, is_ii, is_ib, is_is, is_it, is_il, is_bi, is_bb, is_bs, is_bt, is_bl, is_si, is_sb, is_ss, is_st, is_sl, is_ti, is_tb, is_ts, is_tt, is_tl, is_li, is_lb, is_ls, is_lt, is_ll, is_ni, is_nb, is_ns, is_nt, is_nl, v_eqS, v_neS, v_inS, v_notInS, truD_n, truD_t, cap_s, cap_n, cap_b, noL_s, its_t, own_t, own_s, its_s, sv_n, sv_i, sv_s, sv_b, isStr_s, isNon_n, isNon_i, isNon_s, isNon_t, isNon_l, v_tup, forL_0, kL_nx, kL_ct, kL_bk, kL_rt, kL_ex, tg_n, tg_t, tg_0, tg_s, wp_0, wp_s, bk_0, bk_s, rd_0, rd_s, sb_a, sb_l, si_a, si_l, hd_0, out_t, out_f, argD, ite_self, List.map_cons, List.map_nil, List.append_nil, List.cons_append, List.nil_append, Bool.and_true, Bool.true_and, Bool.not_true, Bool.not_false, Bool.and_false, Bool.false_and, true_and, and_true, decide_eq_true_eq, Bool.false_eq_true, if_false, if_true, ite_true, ite_false, reduceIte, Bool.not_eq_true', Bool.true_eq_false, eq_self]
        · simp at hq
    · simp only [goodL] at h
      have z0 : ((0 : Int) < (((([] : List D).map fun d => cap d).length : Nat) : Int)) = False := by simp
      simp only [e_cst, e_nil, e_yes, e_var, e_fv, e_mv, e_cons, e_dfr, e_op, e_tup, e_lst, e_tr, e_notT, e_andT, e_orT, e_andV, e_orV, e_notV, e_opq, e_if, e_call, e_callM, e_chain, e_src, e_rng, e_lc, g_nx, g_retN, g_brk, g_cnt, g_seq, g_drop, g_ret, g_asg, g_if, g_for, g_app, g_set, kk_ok, kS_ok, kQ_nx, kQ_rt, kQ_bk, kQ_ct, kk_ex, kS_ex, kQ_ex, g_raise, e_isi, g_asgT, e_grd, g_try, g_tryAs, g_appT, e_chainN, lkQ_1, lkQ_2, noX_rt, noX_nx, noX_bk, noX_ct, hdQ_0, hdQ_s, tryQ_ex, tryQ_rt, tryQ_nx, tryQ_bk, tryQ_ct, tasQ_ex, tasQ_rt, tasQ_nx, tasQ_bk, tasQ_ct, has_some, sl_0, sl_s, st_0, st_s, v_add, v_sub, v_neg, v_lt, v_le, v_gt, v_ge, v_eqi, v_nei, v_is, v_isNot, v_len, v_lenT, v_abs, v_int, v_item, v_itemT, v_list, v_max, v_min, v_repr, blD_bl, truD_bl, truD_lst, isF_int, isF_bl, isF_non, isF_tup, isF_str, isF_lf, isF_lk, isF_lo, isF_ll, at_0, at_1, at_2, ix_0, ix_1, ix_2, cap_i, cap_t, noL_i, noL_n, noL_b, noL_t, ck_0, ck_s, lk_0, lk_1, lk_2, lk_3, lk_4, ln_0, ln_1, ln_2, ln_3, ln_4, own_o, own_l, own_f, its_o, its_l, its_f, lend_o, lend_i, lend_b, lend_n, lend_s, lend_t, cap_k, cap_f, lend_l, lend_f, sh_o, sh_l, sh_f, sh_k, Bool.or_true, Bool.true_or, Bool.or_false, Bool.false_or, intD, isLst, lstO, List.set_cons_zero, List.set_cons_succ, bind_S, ty_i, ty_b, ty_s, ty_t, ty_l, ty_n, is_ii, is_ib, is_is, is_it, is_il, is_bi, is_bb, is_bs, is_bt, is_bl, is_si, is_sb, is_ss, is_st, is_sl, is_ti, is_tb, is_ts, is_tt, is_tl, is_li, is_lb, is_ls, is_lt, is_ll, is_ni, is_nb, is_ns, is_nt, is_nl, v_eqS, v_neS, v_inS, v_notInS, truD_n, truD_t, cap_s, cap_n, cap_b, noL_s, its_t, own_t, own_s, its_s, sv_n, sv_i, sv_s, sv_b, isStr_s, isNon_n, isNon_i, isNon_s, isNon_t, isNon_l, v_tup, forL_0, kL_nx, kL_ct, kL_bk, kL_rt, kL_ex, tg_n, tg_t, tg_0, tg_s, wp_0, wp_s, bk_0, bk_s, rd_0, rd_s, sb_a, sb_l, si_a, si_l, hd_0, out_t, out_f, argD, ite_self, List.map_cons, List.map_nil, List.append_nil, List.cons_append, List.nil_append, Bool.and_true, Bool.true_and, Bool.not_true, Bool.not_false, Bool.and_false, Bool.false_and, true_and, and_true, decide_eq_true_eq, Bool.false_eq_true, if_false, if_true, ite_true, ite_false, reduceIte, Bool.not_eq_true', Bool.true_eq_false, eq_self, List.filter]
      simp only [e_cst, e_nil, e_yes, e_var, e_fv, e_mv, e_cons, e_dfr, e_op, e_tup, e_lst, e_tr, e_notT, e_andT, e_orT, e_andV, e_orV, e_notV, e_opq, e_if, e_call, e_callM, e_chain, e_src, e_rng, e_lc, g_nx, g_retN, g_brk, g_cnt, g_seq, g_drop, g_ret, g_asg, g_if, g_for, g_app, g_set, kk_ok, kS_ok, kQ_nx, kQ_rt, kQ_bk, kQ_ct, kk_ex, kS_ex, kQ_ex, g_raise, e_isi, g_asgT, e_grd, g_try, g_tryAs, g_appT, e_chainN, lkQ_1, lkQ_2, noX_rt, noX_nx, noX_bk, noX_ct, hdQ_0, hdQ_s, tryQ_ex, tryQ_rt, tryQ_nx, tryQ_bk, tryQ_ct, tasQ_ex, tasQ_rt, tasQ_nx, tasQ_bk, tasQ_ct, has_some, sl_0, sl_s, st_0, st_s, v_add, v_sub, v_neg, v_lt, v_le, v_gt, v_ge, v_eqi, v_nei, v_is, v_isNot, v_len, v_lenT, v_abs, v_int, v_item, v_itemT, v_list, v_max, v_min, v_repr, blD_bl, truD_bl, truD_lst, isF_int, isF_bl, isF_non, isF_tup, isF_str, isF_lf, isF_lk, isF_lo, isF_ll, at_0, at_1, at_2, ix_0, ix_1, ix_2, cap_i, cap_t, noL_i, noL_n, noL_b, noL_t, ck_0, ck_s, lk_0, lk_1, lk_2, lk_3, lk_4, ln_0, ln_1, ln_2, ln_3, ln_4, own_o, own_l, own_f, its_o, its_l, its_f, lend_o, lend_i, lend_b, lend_n, lend_s, lend_t, cap_k, cap_f, lend_l, lend_f, sh_o, sh_l, sh_f, sh_k, Bool.or_true, Bool.true_or, Bool.or_false, Bool.false_or, intD, isLst, lstO, List.set_cons_zero, List.set_cons_succ, bind_S, ty_i, ty_b, ty_s, ty_t, ty_l, ty_n, is_ii, is_ib, is_is, is_it, is_il, is_bi, is_bb, is_bs, is_bt, is_bl, is_si, is_sb, is_ss, is_st, is_sl, is_ti, is_tb, is_ts, is_tt, is_tl, is_li, is_lb, is_ls, is_lt, is_ll, is_ni, is_nb, is_ns, is_nt, is_nl, v_eqS, v_neS, v_inS, v_notInS, truD_n, truD_t, cap_s, cap_n, cap_b, noL_s, its_t, own_t, own_s, its_s, sv_n, sv_i, sv_s, sv_b, isStr_s, isNon_n, isNon_i, isNon_s, isNon_t, isNon_l, v_tup, forL_0, kL_nx, kL_ct, kL_bk, kL_rt, kL_ex, tg_n, tg_t, tg_0, tg_s, wp_0, wp_s, bk_0, bk_s, rd_0, rd_s, sb_a, sb_l, si_a, si_l, hd_0, out_t, out_f, argD, ite_self, List.map_cons, List.map_nil, List.append_nil, List.cons_append, List.nil_append, Bool.and_true, Bool.true_and, Bool.not_true, Bool.not_false, Bool.and_false, Bool.false_and, true_and, and_true, decide_eq_true_eq, Bool.false_eq_true, if_false, if_true, ite_true, ite_false, reduceIte, Bool.not_eq_true', Bool.true_eq_false, eq_self, List.map_nil] at z0
      simp only [z0, e_cst, e_nil, e_yes, e_var, e_fv, e_mv, e_cons, e_dfr, e_op, e_tup, e_lst, e_tr, e_notT, e_andT, e_orT, e_andV, e_orV, e_notV, e_opq, e_if, e_call, e_callM, e_chain, e_src, e_rng, e_lc, g_nx, g_retN, g_brk, g_cnt, g_seq, g_drop, g_ret, g_asg, g_if, g_for, g_app, g_set, kk_ok, kS_ok, kQ_nx, kQ_rt, kQ_bk, kQ_ct, kk_ex, kS_ex, kQ_ex, g_raise, e_isi, g_asgT, e_grd, g_try, g_tryAs, g_appT, e_chainN, lkQ_1, lkQ_2, noX_rt, noX_nx, noX_bk, noX_ct, hdQ_0, hdQ_s, tryQ_ex, tryQ_rt, tryQ_nx, tryQ_bk, tryQ_ct, tasQ_ex, tasQ_rt, tasQ_nx, tasQ_bk, tasQ_ct, has_some, sl_0, sl_s, st_0, st_s, v_add, v_sub, v_neg, v_lt, v_le, v_gt, v_ge, v_eqi, v_nei, v_is, v_isNot, v_len, v_lenT, v_abs, v_int, v_item, v_itemT, v_list, v_max, v_min, v_repr, blD_bl, truD_bl, truD_lst, isF_int, isF_bl, isF_non, isF_tup, isF_str, isF_lf, isF_lk, isF_lo, isF_ll, at_0, at_1, at_2, ix_0, ix_1, ix_2, cap_i, cap_t, noL_i, noL_n, noL_b, noL_t, ck_0, ck_s, lk_0, lk_1, lk_2, lk_3, lk_4, ln_0, ln_1, ln_2, ln_3, ln_4, own_o, own_l, own_f, its_o, its_l, its_f, lend_o, lend_i, lend_b, lend_n, lend_s, lend_t, cap_k, cap_f, lend_l, lend_f, sh_o, sh_l, sh_f, sh_k, Bool.or_true, Bool.true_or, Bool.or_false, Bool.false_or, intD, isLst, lstO, List.set_cons_zero, List.set_cons_succ, bind_S, ty_i, ty_b, ty_s, ty_t, ty_l, ty_n, is_ii, is_ib, is_is, is_it, is_il, is_bi, is_bb, is_bs, is_bt, is_bl, is_si, is_sb, is_ss, is_st, is_sl, is_ti, is_tb, is_ts, is_tt, is_tl, is_li, is_lb, is_ls, is_lt, is_ll, is_ni, is_nb, is_ns, is_nt, is_nl, v_eqS, v_neS, v_inS, v_notInS, truD_n, truD_t, cap_s, cap_n, cap_b, noL_s, its_t, own_t, own_s, its_s, sv_n, sv_i, sv_s, sv_b, isStr_s, isNon_n, isNon_i, isNon_s, isNon_t, isNon_l, v_tup, forL_0, kL_nx, kL_ct, kL_bk, kL_rt, kL_ex, tg_n, tg_t, tg_0, tg_s, wp_0, wp_s, bk_0, bk_s, rd_0, rd_s, sb_a, sb_l, si_a, si_l, hd_0, out_t, out_f, argD, ite_self, List.map_cons, List.map_nil, List.append_nil, List.cons_append, List.nil_append, Bool.and_true, Bool.true_and, Bool.not_true, Bool.not_false, Bool.and_false, Bool.false_and, true_and, and_true, decide_eq_true_eq, Bool.false_eq_true, if_false, if_true, ite_true, ite_false, reduceIte, Bool.not_eq_true', Bool.true_eq_false, eq_self]
      by_cases h1 : l + 2 ≤ x
      · by_cases h2 : x ≤ y
        · by_cases h3 : y ≤ 20000
          · by_cases h4 : 0 ≤ x
            · have h4' : ¬ x < 0 := by omega
              simp only [h1, h2, h3, h4, decide_true, Bool.true_and] at h
              simp only [h1, h2, h3, h4', e_cst, e_nil, e_yes, e_var, e_fv, e_mv, e_cons, e_dfr, e_op, e_tup, e_lst, e_tr, e_notT, e_andT, e_orT, e_andV, e_orV, e_notV, e_opq, e_if, e_call, e_callM, e_chain, e_src, e_rng, e_lc, g_nx, g_retN, g_brk, g_cnt, g_seq, g_drop, g_ret, g_asg, g_if, g_for, g_app, g_set, kk_ok, kS_ok, kQ_nx, kQ_rt, kQ_bk, kQ_ct, kk_ex, kS_ex, kQ_ex, g_raise, e_isi, g_asgT, e_grd, g_try, g_tryAs, g_appT, e_chainN, lkQ_1, lkQ_2, noX_rt, noX_nx, noX_bk, noX_ct, hdQ_0, hdQ_s, tryQ_ex, tryQ_rt, tryQ_nx, tryQ_bk, tryQ_ct, tasQ_ex, tasQ_rt, tasQ_nx, tasQ_bk, tasQ_ct, has_some, sl_0, sl_s, st_0, st_s, v_add, v_sub, v_neg, v_lt, v_le, v_gt, v_ge, v_eqi, v_nei, v_is, v_isNot, v_len, v_lenT, v_abs, v_int, v_item, v_itemT, v_list, v_max, v_min, v_repr, blD_bl, truD_bl, truD_lst, isF_int, isF_bl, isF_non, isF_tup, isF_str, isF_lf, isF_lk, isF_lo, isF_ll, at_0, at_1, at_2, ix_0, ix_1, ix_2, cap_i, cap_t, noL_i, noL_n, noL_b, noL_t, ck_0, ck_s, lk_0, lk_1, lk_2, lk_3, lk_4, ln_0, ln_1, ln_2, ln_3, ln_4, own_o, own_l, own_f, its_o, its_l, its_f, lend_o, lend_i, lend_b, lend_n, lend_s, lend_t, cap_k, cap_f, lend_l, lend_f, sh_o, sh_l, sh_f, sh_k, Bool.or_true, Bool.true_or, Bool.or_false, Bool.false_or, intD, isLst, lstO, List.set_cons_zero, List.set_cons_succ, bind_S, ty_i, ty_b, ty_s, ty_t, ty_l, ty_n, is_ii, is_ib, is_is, is_it, is_il, is_bi, is_bb, is_bs, is_bt, is_bl, is_si, is_sb, is_ss, is_st, is_sl, is_ti, is_tb, is_ts, is_tt, is_tl, is_li, is_lb, is_ls, is_lt, is_ll, is_ni, is_nb, is_ns, is_nt, is_nl, v_eqS, v_neS, v_inS, v_notInS, truD_n, truD_t, cap_s, cap_n, cap_b, noL_s, its_t, own_t, own_s, its_s, sv_n, sv_i, sv_s, sv_b, isStr_s, isNon_n, isNon_i, isNon_s, isNon_t, isNon_l, v_tup, forL_0, kL_nx, kL_ct, kL_bk, kL_rt, kL_ex, tg_n, tg_t, tg_0, tg_s, wp_0, wp_s, bk_0, bk_s, rd_0, rd_s, sb_a, sb_l, si_a, si_l, hd_0, out_t, out_f, argD, ite_self, List.map_cons, List.map_nil, List.append_nil, List.cons_append, List.nil_append, Bool.and_true, Bool.true_and, Bool.not_true, Bool.not_false, Bool.and_false, Bool.false_and, true_and, and_true, decide_eq_true_eq, Bool.false_eq_true, if_false, if_true, ite_true, ite_false, reduceIte, Bool.not_eq_true', Bool.true_eq_false, eq_self, decide_true, decide_false]
              exact lp_good r y _ _ h
            · have h4' : x < 0 := by omega
              simp only [h1, h2, h3, h4, decide_true, decide_false, Bool.true_and, Bool.false_and, Bool.false_eq_true, if_false] at h
              simp only [h1, h2, h3, h4', e_cst, e_nil, e_yes, e_var, e_fv, e_mv, e_cons, e_dfr, e_op, e_tup, e_lst, e_tr, e_notT, e_andT, e_orT, e_andV, e_orV, e_notV, e_opq, e_if, e_call, e_callM, e_chain, e_src, e_rng, e_lc, g_nx, g_retN, g_brk, g_cnt, g_seq, g_drop, g_ret, g_asg, g_if, g_for, g_app, g_set, kk_ok, kS_ok, kQ_nx, kQ_rt, kQ_bk, kQ_ct, kk_ex, kS_ex, kQ_ex, g_raise, e_isi, g_asgT, e_grd, g_try, g_tryAs, g_appT, e_chainN, lkQ_1, lkQ_2, noX_rt, noX_nx, noX_bk, noX_ct, hdQ_0, hdQ_s, tryQ_ex, tryQ_rt, tryQ_nx, tryQ_bk, tryQ_ct, tasQ_ex, tasQ_rt, tasQ_nx, tasQ_bk, tasQ_ct, has_some, sl_0, sl_s, st_0, st_s, v_add, v_sub, v_neg, v_lt, v_le, v_gt, v_ge, v_eqi, v_nei, v_is, v_isNot, v_len, v_lenT, v_abs, v_int, v_item, v_itemT, v_list, v_max, v_min, v_repr, blD_bl, truD_bl, truD_lst, isF_int, isF_bl, isF_non, isF_tup, isF_str, isF_lf, isF_lk, isF_lo, isF_ll, at_0, at_1, at_2, ix_0, ix_1, ix_2, cap_i, cap_t, noL_i, noL_n, noL_b, noL_t, ck_0, ck_s, lk_0, lk_1, lk_2, lk_3, lk_4, ln_0, ln_1, ln_2, ln_3, ln_4, own_o, own_l, own_f, its_o, its_l, its_f, lend_o, lend_i, lend_b, lend_n, lend_s, lend_t, cap_k, cap_f, lend_l, lend_f, sh_o, sh_l, sh_f, sh_k, Bool.or_true, Bool.true_or, Bool.or_false, Bool.false_or, intD, isLst, lstO, List.set_cons_zero, List.set_cons_succ, bind_S, ty_i, ty_b, ty_s, ty_t, ty_l, ty_n, is_ii, is_ib, is_is, is_it, is_il, is_bi, is_bb, is_bs, is_bt, is_bl, is_si, is_sb, is_ss, is_st, is_sl, is_ti, is_tb, is_ts, is_tt, is_tl, is_li, is_lb, is_ls, is_lt, is_ll, is_ni, is_nb, is_ns, is_nt, is_nl, v_eqS, v_neS, v_inS, v_notInS, truD_n, truD_t, cap_s, cap_n, cap_b, noL_s, its_t, own_t, own_s, its_s, sv_n, sv_i, sv_s, sv_b, isStr_s, isNon_n, isNon_i, isNon_s, isNon_t, isNon_l, v_tup, forL_0, kL_nx, kL_ct, kL_bk, kL_rt, kL_ex, tg_n, tg_t, tg_0, tg_s, wp_0, wp_s, bk_0, bk_s, rd_0, rd_s, sb_a, sb_l, si_a, si_l, hd_0, out_t, out_f, argD, ite_self, List.map_cons, List.map_nil, List.append_nil, List.cons_append, List.nil_append, Bool.and_true, Bool.true_and, Bool.not_true, Bool.not_false, Bool.and_false, Bool.false_and, true_and, and_true, decide_eq_true_eq, Bool.false_eq_true, if_false, if_true, ite_true, ite_false, reduceIte, Bool.not_eq_true', Bool.true_eq_false, eq_self, decide_true, decide_false]
              exact h _ _ _
          · simp only [h1, h2, h3, decide_true, decide_false, Bool.true_and, Bool.false_and, Bool.false_eq_true, if_false] at h
            simp only [h1, h2, h3, e_cst, e_nil, e_yes, e_var, e_fv, e_mv, e_cons, e_dfr, e_op, e_tup, e_lst, e_tr, e_notT, e_andT, e_orT, e_andV, e_orV, e_notV, e_opq, e_if, e_call, e_callM, e_chain, e_src, e_rng, e_lc, g_nx, g_retN, g_brk, g_cnt, g_seq, g_drop, g_ret, g_asg, g_if, g_for, g_app, g_set, kk_ok, kS_ok, kQ_nx, kQ_rt, kQ_bk, kQ_ct, kk_ex, kS_ex, kQ_ex, g_raise, e_isi, g_asgT, e_grd, g_try, g_tryAs, g_appT, e_chainN, lkQ_1, lkQ_2, noX_rt, noX_nx, noX_bk, noX_ct, hdQ_0, hdQ_s, tryQ_ex, tryQ_rt, tryQ_nx, tryQ_bk, tryQ_ct, tasQ_ex, tasQ_rt, tasQ_nx, tasQ_bk, tasQ_ct, has_some, sl_0, sl_s, st_0, st_s, v_add, v_sub, v_neg, v_lt, v_le, v_gt, v_ge, v_eqi, v_nei, v_is, v_isNot, v_len, v_lenT, v_abs, v_int, v_item, v_itemT, v_list, v_max, v_min, v_repr, blD_bl, truD_bl, truD_lst, isF_int, isF_bl, isF_non, isF_tup, isF_str, isF_lf, isF_lk, isF_lo, isF_ll, at_0, at_1, at_2, ix_0, ix_1, ix_2, cap_i, cap_t, noL_i, noL_n, noL_b, noL_t, ck_0, ck_s, lk_0, lk_1, lk_2, lk_3, lk_4, ln_0, ln_1, ln_2, ln_3, ln_4, own_o, own_l, own_f, its_o, its_l, its_f, lend_o, lend_i, lend_b, lend_n, lend_s, lend_t, cap_k, cap_f, lend_l, lend_f, sh_o, sh_l, sh_f, sh_k, Bool.or_true, Bool.true_or, Bool.or_false, Bool.false_or, intD, isLst, lstO, List.set_cons_zero, List.set_cons_succ, bind_S, ty_i, ty_b, ty_s, ty_t, ty_l, ty_n, is_ii, is_ib, is_is, is_it, is_il, is_bi, is_bb, is_bs, is_bt, is_bl, is_si, is_sb, is_ss, is_st, is_sl, is_ti, is_tb, is_ts, is_tt, is_tl, is_li, is_lb, is_ls, is_lt, is_ll, is_ni, is_nb, is_ns, is_nt, is_nl, v_eqS, v_neS, v_inS, v_notInS, truD_n, truD_t, cap_s, cap_n, cap_b, noL_s, its_t, own_t, own_s, its_s, sv_n, sv_i, sv_s, sv_b, isStr_s, isNon_n, isNon_i, isNon_s, isNon_t, isNon_l, v_tup, forL_0, kL_nx, kL_ct, kL_bk, kL_rt, kL_ex, tg_n, tg_t, tg_0, tg_s, wp_0, wp_s, bk_0, bk_s, rd_0, rd_s, sb_a, sb_l, si_a, si_l, hd_0, out_t, out_f, argD, ite_self, List.map_cons, List.map_nil, List.append_nil, List.cons_append, List.nil_append, Bool.and_true, Bool.true_and, Bool.not_true, Bool.not_false, Bool.and_false, Bool.false_and, true_and, and_true, decide_eq_true_eq, Bool.false_eq_true, if_false, if_true, ite_true, ite_false, reduceIte, Bool.not_eq_true', Bool.true_eq_false, eq_self, decide_true, decide_false]
            exact h _ _ _
        · simp only [h1, h2, decide_true, decide_false, Bool.true_and, Bool.false_and, Bool.false_eq_true, if_false] at h
          simp only [h1, h2, e_cst, e_nil, e_yes, e_var, e_fv, e_mv, e_cons, e_dfr, e_op, e_tup, e_lst, e_tr, e_notT, e_andT, e_orT, e_andV, e_orV, e_notV, e_opq, e_if, e_call, e_callM, e_chain, e_src, e_rng, e_lc, g_nx, g_retN, g_brk, g_cnt, g_seq, g_drop, g_ret, g_asg, g_if, g_for, g_app, g_set, kk_ok, kS_ok, kQ_nx, kQ_rt, kQ_bk, kQ_ct, kk_ex, kS_ex, kQ_ex, g_raise, e_isi, g_asgT, e_grd, g_try, g_tryAs, g_appT, e_chainN, lkQ_1, lkQ_2, noX_rt, noX_nx, noX_bk, noX_ct, hdQ_0, hdQ_s, tryQ_ex, tryQ_rt, tryQ_nx, tryQ_bk, tryQ_ct, tasQ_ex, tasQ_rt, tasQ_nx, tasQ_bk, tasQ_ct, has_some, sl_0, sl_s, st_0, st_s, v_add, v_sub, v_neg, v_lt, v_le, v_gt, v_ge, v_eqi, v_nei, v_is, v_isNot, v_len, v_lenT, v_abs, v_int, v_item, v_itemT, v_list, v_max, v_min, v_repr, blD_bl, truD_bl, truD_lst, isF_int, isF_bl, isF_non, isF_tup, isF_str, isF_lf, isF_lk, isF_lo, isF_ll, at_0, at_1, at_2, ix_0, ix_1, ix_2, cap_i, cap_t, noL_i, noL_n, noL_b, noL_t, ck_0, ck_s, lk_0, lk_1, lk_2, lk_3, lk_4, ln_0, ln_1, ln_2, ln_3, ln_4, own_o, own_l, own_f, its_o, its_l, its_f, lend_o, lend_i, lend_b, lend_n, lend_s, lend_t, cap_k, cap_f, lend_l, lend_f, sh_o, sh_l, sh_f, sh_k, Bool.or_true, Bool.true_or, Bool.or_false, Bool.false_or, intD, isLst, lstO, List.set_cons_zero, List.set_cons_succ, bind_S, ty_i, ty_b, ty_s, ty_t, ty_l, ty_n, is_ii, is_ib, is_is, is_it, is_il, is_bi, is_bb, is_bs, is_bt, is_bl, is_si, is_sb, is_ss, is_st, is_sl, is_ti, is_tb, is_ts, is_tt, is_tl, is_li, is_lb, is_ls, is_lt, is_ll, is_ni, is_nb, is_ns, is_nt, is_nl, v_eqS, v_neS, v_inS, v_notInS, truD_n, truD_t, cap_s, cap_n, cap_b, noL_s, its_t, own_t, own_s, its_s, sv_n, sv_i, sv_s, sv_b, isStr_s, isNon_n, isNon_i, isNon_s, isNon_t, isNon_l, v_tup, forL_0, kL_nx, kL_ct, kL_bk, kL_rt, kL_ex, tg_n, tg_t, tg_0, tg_s, wp_0, wp_s, bk_0, bk_s, rd_0, rd_s, sb_a, sb_l, si_a, si_l, hd_0, out_t, out_f, argD, ite_self, List.map_cons, List.map_nil, List.append_nil, List.cons_append, List.nil_append, Bool.and_true, Bool.true_and, Bool.not_true, Bool.not_false, Bool.and_false, Bool.false_and, true_and, and_true, decide_eq_true_eq, Bool.false_eq_true, if_false, if_true, ite_true, ite_false, reduceIte, Bool.not_eq_true', Bool.true_eq_false, eq_self, decide_true, decide_false]
          exact h _ _ _
      · simp only [h1, decide_true, decide_false, Bool.true_and, Bool.false_and, Bool.false_eq_true, if_false] at h
        simp only [h1, e_cst, e_nil, e_yes, e_var, e_fv, e_mv, e_cons, e_dfr, e_op, e_tup, e_lst, e_tr, e_notT, e_andT, e_orT, e_andV, e_orV, e_notV, e_opq, e_if, e_call, e_callM, e_chain, e_src, e_rng, e_lc, g_nx, g_retN, g_brk, g_cnt, g_seq, g_drop, g_ret, g_asg, g_if, g_for, g_app, g_set, kk_ok, kS_ok, kQ_nx, kQ_rt, kQ_bk, kQ_ct, kk_ex, kS_ex, kQ_ex, g_raise, e_isi, g_asgT, e_grd, g_try, g_tryAs, g_appT, e_chainN, lkQ_1, lkQ_2, noX_rt, noX_nx, noX_bk, noX_ct, hdQ_0, hdQ_s, tryQ_ex, tryQ_rt, tryQ_nx, tryQ_bk, tryQ_ct, tasQ_ex, tasQ_rt, tasQ_nx, tasQ_bk, tasQ_ct, has_some, sl_0, sl_s, st_0, st_s, v_add, v_sub, v_neg, v_lt, v_le, v_gt, v_ge, v_eqi, v_nei, v_is, v_isNot, v_len, v_lenT, v_abs, v_int, v_item, v_itemT, v_list, v_max, v_min, v_repr, blD_bl, truD_bl, truD_lst, isF_int, isF_bl, isF_non, isF_tup, isF_str, isF_lf, isF_lk, isF_lo, isF_ll, at_0, at_1, at_2, ix_0, ix_1, ix_2, cap_i, cap_t, noL_i, noL_n, noL_b, noL_t, ck_0, ck_s, lk_0, lk_1, lk_2, lk_3, lk_4, ln_0, ln_1, ln_2, ln_3, ln_4, own_o, own_l, own_f, its_o, its_l, its_f, lend_o, lend_i, lend_b, lend_n, lend_s, lend_t, cap_k, cap_f, lend_l, lend_f, sh_o, sh_l, sh_f, sh_k, Bool.or_true, Bool.true_or, Bool.or_false, Bool.false_or, intD, isLst, lstO, List.set_cons_zero, List.set_cons_succ, bind_S, ty_i, ty_b, ty_s, ty_t, ty_l, ty_n, is_ii, is_ib, is_is, is_it, is_il, is_bi, is_bb, is_bs, is_bt, is_bl, is_si, is_sb, is_ss, is_st, is_sl, is_ti, is_tb, is_ts, is_tt, is_tl, is_li, is_lb, is_ls, is_lt, is_ll, is_ni, is_nb, is_ns, is_nt, is_nl, v_eqS, v_neS, v_inS, v_notInS, truD_n, truD_t, cap_s, cap_n, cap_b, noL_s, its_t, own_t, own_s, its_s, sv_n, sv_i, sv_s, sv_b, isStr_s, isNon_n, isNon_i, isNon_s, isNon_t, isNon_l, v_tup, forL_0, kL_nx, kL_ct, kL_bk, kL_rt, kL_ex, tg_n, tg_t, tg_0, tg_s, wp_0, wp_s, bk_0, bk_s, rd_0, rd_s, sb_a, sb_l, si_a, si_l, hd_0, out_t, out_f, argD, ite_self, List.map_cons, List.map_nil, List.append_nil, List.cons_append, List.nil_append, Bool.and_true, Bool.true_and, Bool.not_true, Bool.not_false, Bool.and_false, Bool.false_and, true_and, and_true, decide_eq_true_eq, Bool.false_eq_true, if_false, if_true, ite_true, ite_false, reduceIte, Bool.not_eq_true', Bool.true_eq_false, eq_self, decide_true, decide_false]
        exact h _ _ _
theorem ok_good {d : D} {xs : List Row} (hd : Sq d (xs.map enc)) : F__law_good [d] = some (.ok (.bl (goodR xs)), [none]) := by
  unfold F__law_good
  refine fn_go rfl ?_
  show Go ev__law_good [some d, none, none, none] _
  have e2 : (0 : Int) - 2 = -2 := rfl
  simp only [ev__law_good, e_cst, e_nil, e_yes, e_var, e_fv, e_mv, e_cons, e_dfr, e_op, e_tup, e_lst, e_tr, e_notT, e_andT, e_orT, e_andV, e_orV, e_notV, e_opq, e_if, e_call, e_callM, e_chain, e_src, e_rng, e_lc, g_nx, g_retN, g_brk, g_cnt, g_seq, g_drop, g_ret, g_asg, g_if, g_for, g_app, g_set, kk_ok, kS_ok, kQ_nx, kQ_rt, kQ_bk, kQ_ct, kk_ex, kS_ex, kQ_ex, g_raise, e_isi, g_asgT, e_grd, g_try, g_tryAs, g_appT, e_chainN, lkQ_1, lkQ_2, noX_rt, noX_nx, noX_bk, noX_ct, hdQ_0, hdQ_s, tryQ_ex, tryQ_rt, tryQ_nx, tryQ_bk, tryQ_ct, tasQ_ex, tasQ_rt, tasQ_nx, tasQ_bk, tasQ_ct, has_some, sl_0, sl_s, st_0, st_s, v_add, v_sub, v_neg, v_lt, v_le, v_gt, v_ge, v_eqi, v_nei, v_is, v_isNot, v_len, v_lenT, v_abs, v_int, v_item, v_itemT, v_list, v_max, v_min, v_repr, blD_bl, truD_bl, truD_lst, isF_int, isF_bl, isF_non, isF_tup, isF_str, isF_lf, isF_lk, isF_lo, isF_ll, at_0, at_1, at_2, ix_0, ix_1, ix_2, cap_i, cap_t, noL_i, noL_n, noL_b, noL_t, ck_0, ck_s, lk_0, lk_1, lk_2, lk_3, lk_4, ln_0, ln_1, ln_2, ln_3, ln_4, own_o, own_l, own_f, its_o, its_l, its_f, lend_o, lend_i, lend_b, lend_n, lend_s, lend_t, cap_k, cap_f, lend_l, lend_f, sh_o, sh_l, sh_f, sh_k, Bool.or_true, Bool.true_or, Bool.or_false, Bool.false_or, intD, isLst, lstO, List.set_cons_zero, List.set_cons_succ, bind_S, ty_i, ty_b, ty_s, ty_t, ty_l, ty_n, is_ii, is_ib, is_is, is_it, is_il, is_bi, is_bb, is_bs, is_bt, is_bl, is_si, is_sb, is_ss, is_st, is_sl, is_ti, is_tb, is_ts, is_tt, is_tl, is_li, is_lb, is_ls, is_lt, is_ll, is_ni, is_nb, is_ns, is_nt, is_nl, v_eqS, v_neS, v_inS, v_notInS, truD_n, truD_t, cap_s, cap_n, cap_b, noL_s, its_t, own_t, own_s, its_s, sv_n, sv_i, sv_s, sv_b, isStr_s, isNon_n, isNon_i, isNon_s, isNon_t, isNon_l, v_tup, forL_0, kL_nx, kL_ct, kL_bk, kL_rt, kL_ex, tg_n, tg_t, tg_0, tg_s, wp_0, wp_s, bk_0, bk_s, rd_0, rd_s, sb_a, sb_l, si_a, si_l, hd_0, out_t, out_f, argD, ite_self, List.map_cons, List.map_nil, List.append_nil, List.cons_append, List.nil_append, Bool.and_true, Bool.true_and, Bool.not_true, Bool.not_false, Bool.and_false, Bool.false_and, true_and, and_true, decide_eq_true_eq, Bool.false_eq_true, if_false, if_true, ite_true, ite_false, reduceIte, Bool.not_eq_true', Bool.true_eq_false, eq_self, hd.its, hd.own, e2]
  refine lp_good xs (-2) none none fun l a b => ?_
  unfold goodR
  cases goodL (-2) xs
  · simp only [e_cst, e_nil, e_yes, e_var, e_fv, e_mv, e_cons, e_dfr, e_op, e_tup, e_lst, e_tr, e_notT, e_andT, e_orT, e_andV, e_orV, e_notV, e_opq, e_if, e_call, e_callM, e_chain, e_src, e_rng, e_lc, g_nx, g_retN, g_brk, g_cnt, g_seq, g_drop, g_ret, g_asg, g_if, g_for, g_app, g_set, kk_ok, kS_ok, kQ_nx, kQ_rt, kQ_bk, kQ_ct, kk_ex, kS_ex, kQ_ex, g_raise, e_isi, g_asgT, e_grd, g_try, g_tryAs, g_appT, e_chainN, lkQ_1, lkQ_2, noX_rt, noX_nx, noX_bk, noX_ct, hdQ_0, hdQ_s, tryQ_ex, tryQ_rt, tryQ_nx, tryQ_bk, tryQ_ct, tasQ_ex, tasQ_rt, tasQ_nx, tasQ_bk, tasQ_ct, has_some, sl_0, sl_s, st_0, st_s, v_add, v_sub, v_neg, v_lt, v_le, v_gt, v_ge, v_eqi, v_nei, v_is, v_isNot, v_len, v_lenT, v_abs, v_int, v_item, v_itemT, v_list, v_max, v_min, v_repr, blD_bl, truD_bl, truD_lst, isF_int, isF_bl, isF_non, isF_tup, isF_str, isF_lf, isF_lk, isF_lo, isF_ll, at_0, at_1, at_2, ix_0, ix_1, ix_2, cap_i, cap_t, noL_i, noL_n, noL_b, noL_t, ck_0, ck_s, lk_0, lk_1, lk_2, lk_3, lk_4, ln_0, ln_1, ln_2, ln_3, ln_4, own_o, own_l, own_f, its_o, its_l, its_f, lend_o, lend_i, lend_b, lend_n, lend_s, lend_t, cap_k, cap_f, lend_l, lend_f, sh_o, sh_l, sh_f, sh_k, Bool.or_true, Bool.true_or, Bool.or_false, Bool.false_or, intD, isLst, lstO, List.set_cons_zero, List.set_cons_succ, bind_S, ty_i, ty_b, ty_s, ty_t, ty_l, ty_n, is_ii, is_ib, is_is, is_it, is_il, is_bi, is_bb, is_bs, is_bt, is_bl, is_si, is_sb, is_ss, is_st, is_sl, is_ti, is_tb, is_ts, is_tt, is_tl, is_li, is_lb, is_ls, is_lt, is_ll, is_ni, is_nb, is_ns, is_nt, is_nl, v_eqS, v_neS, v_inS, v_notInS, truD_n, truD_t, cap_s, cap_n, cap_b, noL_s, its_t, own_t, own_s, its_s, sv_n, sv_i, sv_s, sv_b, isStr_s, isNon_n, isNon_i, isNon_s, isNon_t, isNon_l, v_tup, forL_0, kL_nx, kL_ct, kL_bk, kL_rt, kL_ex, tg_n, tg_t, tg_0, tg_s, wp_0, wp_s, bk_0, bk_s, rd_0, rd_s, sb_a, sb_l, si_a, si_l, hd_0, out_t, out_f, argD, ite_self, List.map_cons, List.map_nil, List.append_nil, List.cons_append, List.nil_append, Bool.and_true, Bool.true_and, Bool.not_true, Bool.not_false, Bool.and_false, Bool.false_and, true_and, and_true, decide_eq_true_eq, Bool.false_eq_true, if_false, if_true, ite_true, ite_false, reduceIte, Bool.not_eq_true', Bool.true_eq_false, eq_self]
    rfl
  · simp only [e_cst, e_nil, e_yes, e_var, e_fv, e_mv, e_cons, e_dfr, e_op, e_tup, e_lst, e_tr, e_notT, e_andT, e_orT, e_andV, e_orV, e_notV, e_opq, e_if, e_call, e_callM, e_chain, e_src, e_rng, e_lc, g_nx, g_retN, g_brk, g_cnt, g_seq, g_drop, g_ret, g_asg, g_if, g_for, g_app, g_set, kk_ok, kS_ok, kQ_nx, kQ_rt, kQ_bk, kQ_ct, kk_ex, kS_ex, kQ_ex, g_raise, e_isi, g_asgT, e_grd, g_try, g_tryAs, g_appT, e_chainN, lkQ_1, lkQ_2, noX_rt, noX_nx, noX_bk, noX_ct, hdQ_0, hdQ_s, tryQ_ex, tryQ_rt, tryQ_nx, tryQ_bk, tryQ_ct, tasQ_ex, tasQ_rt, tasQ_nx, tasQ_bk, tasQ_ct, has_some, sl_0, sl_s, st_0, st_s, v_add, v_sub, v_neg, v_lt, v_le, v_gt, v_ge, v_eqi, v_nei, v_is, v_isNot, v_len, v_lenT, v_abs, v_int, v_item, v_itemT, v_list, v_max, v_min, v_repr, blD_bl, truD_bl, truD_lst, isF_int, isF_bl, isF_non, isF_tup, isF_str, isF_lf, isF_lk, isF_lo, isF_ll, at_0, at_1, at_2, ix_0, ix_1, ix_2, cap_i, cap_t, noL_i, noL_n, noL_b, noL_t, ck_0, ck_s, lk_0, lk_1, lk_2, lk_3, lk_4, ln_0, ln_1, ln_2, ln_3, ln_4, own_o, own_l, own_f, its_o, its_l, its_f, lend_o, lend_i, lend_b, lend_n, lend_s, lend_t, cap_k, cap_f, lend_l, lend_f, sh_o, sh_l, sh_f, sh_k, Bool.or_true, Bool.true_or, Bool.or_false, Bool.false_or, intD, isLst, lstO, List.set_cons_zero, List.set_cons_succ, bind_S, ty_i, ty_b, ty_s, ty_t, ty_l, ty_n, is_ii, is_ib, is_is, is_it, is_il, is_bi, is_bb, is_bs, is_bt, is_bl, is_si, is_sb, is_ss, is_st, is_sl, is_ti, is_tb, is_ts, is_tt, is_tl, is_li, is_lb, is_ls, is_lt, is_ll, is_ni, is_nb, is_ns, is_nt, is_nl, v_eqS, v_neS, v_inS, v_notInS, truD_n, truD_t, cap_s, cap_n, cap_b, noL_s, its_t, own_t, own_s, its_s, sv_n, sv_i, sv_s, sv_b, isStr_s, isNon_n, isNon_i, isNon_s, isNon_t, isNon_l, v_tup, forL_0, kL_nx, kL_ct, kL_bk, kL_rt, kL_ex, tg_n, tg_t, tg_0, tg_s, wp_0, wp_s, bk_0, bk_s, rd_0, rd_s, sb_a, sb_l, si_a, si_l, hd_0, out_t, out_f, argD, ite_self, List.map_cons, List.map_nil, List.append_nil, List.cons_append, List.nil_append, Bool.and_true, Bool.true_and, Bool.not_true, Bool.not_false, Bool.and_false, Bool.false_and, true_and, and_true, decide_eq_true_eq, Bool.false_eq_true, if_false, if_true, ite_true, ite_false, reduceIte, Bool.not_eq_true', Bool.true_eq_false, eq_self, hd.len, List.length_map]
    rw [show decide (((xs.length : Nat) : Int) ≤ 60) = decide (xs.length ≤ 60) from by rw [Bool.eq_iff_iff, decide_eq_true_eq, decide_eq_true_eq]; omega]
    rfl
/-! checked_spans -/
theorem isNon_oi (o : Option Int) : isNon (oi o) = o.isNone := by cases o <;> rfl
theorem lp_chk {d : D} {K : ES → Prop} : ∀ (xs acc : List Row) (l : Option Int) (a b c : Option D), acc.length + xs.length ≤ 100000 → (∀ l' f a b c, K (if goodL (l.getD (-2)) xs = true then (.nx, [some d, l', some (rwD .o (acc ++ xs)), a, b, c]) else (.ex ⟨2, []⟩, [some d, l', f, a, b, c]))) → has (evForL (tgName 3) bd_checked_spans_0 (xs.map enc) [some d, some (oi l), some (rwD .o acc), a, b, c]) K
  | [], acc, l, a, b, c, hl, h => by
    simp only [e_cst, e_nil, e_yes, e_var, e_fv, e_mv, e_cons, e_dfr, e_op, e_tup, e_lst, e_tr, e_notT, e_andT, e_orT, e_andV, e_orV, e_notV, e_opq, e_if, e_call, e_callM, e_chain, e_src, e_rng, e_lc, g_nx, g_retN, g_brk, g_cnt, g_seq, g_drop, g_ret, g_asg, g_if, g_for, g_app, g_set, kk_ok, kS_ok, kQ_nx, kQ_rt, kQ_bk, kQ_ct, kk_ex, kS_ex, kQ_ex, g_raise, e_isi, g_asgT, e_grd, g_try, g_tryAs, g_appT, e_chainN, lkQ_1, lkQ_2, noX_rt, noX_nx, noX_bk, noX_ct, hdQ_0, hdQ_s, tryQ_ex, tryQ_rt, tryQ_nx, tryQ_bk, tryQ_ct, tasQ_ex, tasQ_rt, tasQ_nx, tasQ_bk, tasQ_ct, has_some, sl_0, sl_s, st_0, st_s, v_add, v_sub, v_neg, v_lt, v_le, v_gt, v_ge, v_eqi, v_nei, v_is, v_isNot, v_len, v_lenT, v_abs, v_int, v_item, v_itemT, v_list, v_max, v_min, v_repr, blD_bl, truD_bl, truD_lst, isF_int, isF_bl, isF_non, isF_tup, isF_str, isF_lf, isF_lk, isF_lo, isF_ll, at_0, at_1, at_2, ix_0, ix_1, ix_2, cap_i, cap_t, noL_i, noL_n, noL_b, noL_t, ck_0, ck_s, lk_0, lk_1, lk_2, lk_3, lk_4, ln_0, ln_1, ln_2, ln_3, ln_4, own_o, own_l, own_f, its_o, its_l, its_f, lend_o, lend_i, lend_b, lend_n, lend_s, lend_t, cap_k, cap_f, lend_l, lend_f, sh_o, sh_l, sh_f, sh_k, Bool.or_true, Bool.true_or, Bool.or_false, Bool.false_or, intD, isLst, lstO, List.set_cons_zero, List.set_cons_succ, bind_S, ty_i, ty_b, ty_s, ty_t, ty_l, ty_n, is_ii, is_ib, is_is, is_it, is_il, is_bi, is_bb, is_bs, is_bt, is_bl, is_si, is_sb, is_ss, is_st, is_sl, is_ti, is_tb, is_ts, is_tt, is_tl, is_li, is_lb, is_ls, is_lt, is_ll, is_ni, is_nb, is_ns, is_nt, is_nl, v_eqS, v_neS, v_inS, v_notInS, truD_n, truD_t, cap_s, cap_n, cap_b, noL_s, its_t, own_t, own_s, its_s, sv_n, sv_i, sv_s, sv_b, isStr_s, isNon_n, isNon_i, isNon_s, isNon_t, isNon_l, v_tup, forL_0, kL_nx, kL_ct, kL_bk, kL_rt, kL_ex, tg_n, tg_t, tg_0, tg_s, wp_0, wp_s, bk_0, bk_s, rd_0, rd_s, sb_a, sb_l, si_a, si_l, hd_0, out_t, out_f, argD, ite_self, List.map_cons, List.map_nil, List.append_nil, List.cons_append, List.nil_append, Bool.and_true, Bool.true_and, Bool.not_true, Bool.not_false, Bool.and_false, Bool.false_and, true_and, and_true, decide_eq_true_eq, Bool.false_eq_true, if_false, if_true, ite_true, ite_false, reduceIte, Bool.not_eq_true', Bool.true_eq_false, eq_self]
    have := h (some (oi l)) none a b c
    simpa [goodL] using this
  | .li x y :: r, acc, l, a, b, c, hl, h => by
    simp only [goodL, Bool.false_eq_true, if_false] at h
    simp only [List.map_cons, forL_s, enc, bd_checked_spans_0, e_cst, e_nil, e_yes, e_var, e_fv, e_mv, e_cons, e_dfr, e_op, e_tup, e_lst, e_tr, e_notT, e_andT, e_orT, e_andV, e_orV, e_notV, e_opq, e_if, e_call, e_callM, e_chain, e_src, e_rng, e_lc, g_nx, g_retN, g_brk, g_cnt, g_seq, g_drop, g_ret, g_asg, g_if, g_for, g_app, g_set, kk_ok, kS_ok, kQ_nx, kQ_rt, kQ_bk, kQ_ct, kk_ex, kS_ex, kQ_ex, g_raise, e_isi, g_asgT, e_grd, g_try, g_tryAs, g_appT, e_chainN, lkQ_1, lkQ_2, noX_rt, noX_nx, noX_bk, noX_ct, hdQ_0, hdQ_s, tryQ_ex, tryQ_rt, tryQ_nx, tryQ_bk, tryQ_ct, tasQ_ex, tasQ_rt, tasQ_nx, tasQ_bk, tasQ_ct, has_some, sl_0, sl_s, st_0, st_s, v_add, v_sub, v_neg, v_lt, v_le, v_gt, v_ge, v_eqi, v_nei, v_is, v_isNot, v_len, v_lenT, v_abs, v_int, v_item, v_itemT, v_list, v_max, v_min, v_repr, blD_bl, truD_bl, truD_lst, isF_int, isF_bl, isF_non, isF_tup, isF_str, isF_lf, isF_lk, isF_lo, isF_ll, at_0, at_1, at_2, ix_0, ix_1, ix_2, cap_i, cap_t, noL_i, noL_n, noL_b, noL_t, ck_0, ck_s, lk_0, lk_1, lk_2, lk_3, lk_4, ln_0, ln_1, ln_2, ln_3, ln_4, own_o, own_l, own_f, its_o, its_l, its_f, lend_o, lend_i, lend_b, lend_n, lend_s, lend_t, cap_k, cap_f, lend_l, lend_f, sh_o, sh_l, sh_f, sh_k, Bool.or_true, Bool.true_or, Bool.or_false, Bool.false_or, intD, isLst, lstO, List.set_cons_zero, List.set_cons_succ, bind_S, ty_i, ty_b, ty_s, ty_t, ty_l, ty_n, is_ii, is_ib, is_is, is_it, is_il, is_bi, is_bb, is_bs, is_bt, is_bl, is_si, is_sb, is_ss, is_st, is_sl, is_ti, is_tb, is_ts, is_tt, is_tl, is_li, is_lb, is_ls, is_lt, is_ll, is_ni, is_nb, is_ns, is_nt, is_nl, v_eqS, v_neS, v_inS, v_notInS, truD_n, truD_t, cap_s, cap_n, cap_b, noL_s, its_t, own_t, own_s, its_s, sv_n, sv_i, sv_s, sv_b, isStr_s, isNon_n, isNon_i, isNon_s, isNon_t, isNon_l, v_tup, forL_0, kL_nx, kL_ct, kL_bk, kL_rt, kL_ex, tg_n, tg_t, tg_0, tg_s, wp_0, wp_s, bk_0, bk_s, rd_0, rd_s, sb_a, sb_l, si_a, si_l, hd_0, out_t, out_f, argD, ite_self, List.map_cons, List.map_nil, List.append_nil, List.cons_append, List.nil_append, Bool.and_true, Bool.true_and, Bool.not_true, Bool.not_false, Bool.and_false, Bool.false_and, true_and, and_true, decide_eq_true_eq, Bool.false_eq_true, if_false, if_true, ite_true, ite_false, reduceIte, Bool.not_eq_true', Bool.true_eq_false, eq_self]
    exact h _ _ _ _ _
  | .one x :: r, acc, l, a, b, c, hl, h => by
    simp only [goodL, Bool.false_eq_true, if_false] at h
    simp only [List.map_cons, forL_s, enc, bd_checked_spans_0, e_cst, e_nil, e_yes, e_var, e_fv, e_mv, e_cons, e_dfr, e_op, e_tup, e_lst, e_tr, e_notT, e_andT, e_orT, e_andV, e_orV, e_notV, e_opq, e_if, e_call, e_callM, e_chain, e_src, e_rng, e_lc, g_nx, g_retN, g_brk, g_cnt, g_seq, g_drop, g_ret, g_asg, g_if, g_for, g_app, g_set, kk_ok, kS_ok, kQ_nx, kQ_rt, kQ_bk, kQ_ct, kk_ex, kS_ex, kQ_ex, g_raise, e_isi, g_asgT, e_grd, g_try, g_tryAs, g_appT, e_chainN, lkQ_1, lkQ_2, noX_rt, noX_nx, noX_bk, noX_ct, hdQ_0, hdQ_s, tryQ_ex, tryQ_rt, tryQ_nx, tryQ_bk, tryQ_ct, tasQ_ex, tasQ_rt, tasQ_nx, tasQ_bk, tasQ_ct, has_some, sl_0, sl_s, st_0, st_s, v_add, v_sub, v_neg, v_lt, v_le, v_gt, v_ge, v_eqi, v_nei, v_is, v_isNot, v_len, v_lenT, v_abs, v_int, v_item, v_itemT, v_list, v_max, v_min, v_repr, blD_bl, truD_bl, truD_lst, isF_int, isF_bl, isF_non, isF_tup, isF_str, isF_lf, isF_lk, isF_lo, isF_ll, at_0, at_1, at_2, ix_0, ix_1, ix_2, cap_i, cap_t, noL_i, noL_n, noL_b, noL_t, ck_0, ck_s, lk_0, lk_1, lk_2, lk_3, lk_4, ln_0, ln_1, ln_2, ln_3, ln_4, own_o, own_l, own_f, its_o, its_l, its_f, lend_o, lend_i, lend_b, lend_n, lend_s, lend_t, cap_k, cap_f, lend_l, lend_f, sh_o, sh_l, sh_f, sh_k, Bool.or_true, Bool.true_or, Bool.or_false, Bool.false_or, intD, isLst, lstO, List.set_cons_zero, List.set_cons_succ, bind_S, ty_i, ty_b, ty_s, ty_t, ty_l, ty_n, is_ii, is_ib, is_is, is_it, is_il, is_bi, is_bb, is_bs, is_bt, is_bl, is_si, is_sb, is_ss, is_st, is_sl, is_ti, is_tb, is_ts, is_tt, is_tl, is_li, is_lb, is_ls, is_lt, is_ll, is_ni, is_nb, is_ns, is_nt, is_nl, v_eqS, v_neS, v_inS, v_notInS, truD_n, truD_t, cap_s, cap_n, cap_b, noL_s, its_t, own_t, own_s, its_s, sv_n, sv_i, sv_s, sv_b, isStr_s, isNon_n, isNon_i, isNon_s, isNon_t, isNon_l, v_tup, forL_0, kL_nx, kL_ct, kL_bk, kL_rt, kL_ex, tg_n, tg_t, tg_0, tg_s, wp_0, wp_s, bk_0, bk_s, rd_0, rd_s, sb_a, sb_l, si_a, si_l, hd_0, out_t, out_f, argD, ite_self, List.map_cons, List.map_nil, List.append_nil, List.cons_append, List.nil_append, Bool.and_true, Bool.true_and, Bool.not_true, Bool.not_false, Bool.and_false, Bool.false_and, true_and, and_true, decide_eq_true_eq, Bool.false_eq_true, if_false, if_true, ite_true, ite_false, reduceIte, Bool.not_eq_true', Bool.true_eq_false, eq_self]
    rw [show (decide ((([D.int x].length : Nat) : Int) = 2)) = false from rfl]
    simp only [e_cst, e_nil, e_yes, e_var, e_fv, e_mv, e_cons, e_dfr, e_op, e_tup, e_lst, e_tr, e_notT, e_andT, e_orT, e_andV, e_orV, e_notV, e_opq, e_if, e_call, e_callM, e_chain, e_src, e_rng, e_lc, g_nx, g_retN, g_brk, g_cnt, g_seq, g_drop, g_ret, g_asg, g_if, g_for, g_app, g_set, kk_ok, kS_ok, kQ_nx, kQ_rt, kQ_bk, kQ_ct, kk_ex, kS_ex, kQ_ex, g_raise, e_isi, g_asgT, e_grd, g_try, g_tryAs, g_appT, e_chainN, lkQ_1, lkQ_2, noX_rt, noX_nx, noX_bk, noX_ct, hdQ_0, hdQ_s, tryQ_ex, tryQ_rt, tryQ_nx, tryQ_bk, tryQ_ct, tasQ_ex, tasQ_rt, tasQ_nx, tasQ_bk, tasQ_ct, has_some, sl_0, sl_s, st_0, st_s, v_add, v_sub, v_neg, v_lt, v_le, v_gt, v_ge, v_eqi, v_nei, v_is, v_isNot, v_len, v_lenT, v_abs, v_int, v_item, v_itemT, v_list, v_max, v_min, v_repr, blD_bl, truD_bl, truD_lst, isF_int, isF_bl, isF_non, isF_tup, isF_str, isF_lf, isF_lk, isF_lo, isF_ll, at_0, at_1, at_2, ix_0, ix_1, ix_2, cap_i, cap_t, noL_i, noL_n, noL_b, noL_t, ck_0, ck_s, lk_0, lk_1, lk_2, lk_3, lk_4, ln_0, ln_1, ln_2, ln_3, ln_4, own_o, own_l, own_f, its_o, its_l, its_f, lend_o, lend_i, lend_b, lend_n, lend_s, lend_t, cap_k, cap_f, lend_l, lend_f, sh_o, sh_l, sh_f, sh_k, Bool.or_true, Bool.true_or, Bool.or_false, Bool.false_or, intD, isLst, lstO, List.set_cons_zero, List.set_cons_succ, bind_S, ty_i, ty_b, ty_s, ty_t, ty_l, ty_n, is_ii, is_ib, is_is, is_it, is_il, is_bi, is_bb, is_bs, is_bt, is_bl, is_si, is_sb, is_ss, is_st, is_sl, is_ti, is_tb, is_ts, is_tt, is_tl, is_li, is_lb, is_ls, is_lt, is_ll, is_ni, is_nb, is_ns, is_nt, is_nl, v_eqS, v_neS, v_inS, v_notInS, truD_n, truD_t, cap_s, cap_n, cap_b, noL_s, its_t, own_t, own_s, its_s, sv_n, sv_i, sv_s, sv_b, isStr_s, isNon_n, isNon_i, isNon_s, isNon_t, isNon_l, v_tup, forL_0, kL_nx, kL_ct, kL_bk, kL_rt, kL_ex, tg_n, tg_t, tg_0, tg_s, wp_0, wp_s, bk_0, bk_s, rd_0, rd_s, sb_a, sb_l, si_a, si_l, hd_0, out_t, out_f, argD, ite_self, List.map_cons, List.map_nil, List.append_nil, List.cons_append, List.nil_append, Bool.and_true, Bool.true_and, Bool.not_true, Bool.not_false, Bool.and_false, Bool.false_and, true_and, and_true, decide_eq_true_eq, Bool.false_eq_true, if_false, if_true, ite_true, ite_false, reduceIte, Bool.not_eq_true', Bool.true_eq_false, eq_self]
    exact h _ _ _ _ _
  | .tru y :: r, acc, l, a, b, c, hl, h => by
    simp only [goodL, Bool.false_eq_true, if_false] at h
    simp only [List.map_cons, forL_s, enc, bd_checked_spans_0, e_cst, e_nil, e_yes, e_var, e_fv, e_mv, e_cons, e_dfr, e_op, e_tup, e_lst, e_tr, e_notT, e_andT, e_orT, e_andV, e_orV, e_notV, e_opq, e_if, e_call, e_callM, e_chain, e_src, e_rng, e_lc, g_nx, g_retN, g_brk, g_cnt, g_seq, g_drop, g_ret, g_asg, g_if, g_for, g_app, g_set, kk_ok, kS_ok, kQ_nx, kQ_rt, kQ_bk, kQ_ct, kk_ex, kS_ex, kQ_ex, g_raise, e_isi, g_asgT, e_grd, g_try, g_tryAs, g_appT, e_chainN, lkQ_1, lkQ_2, noX_rt, noX_nx, noX_bk, noX_ct, hdQ_0, hdQ_s, tryQ_ex, tryQ_rt, tryQ_nx, tryQ_bk, tryQ_ct, tasQ_ex, tasQ_rt, tasQ_nx, tasQ_bk, tasQ_ct, has_some, sl_0, sl_s, st_0, st_s, v_add, v_sub, v_neg, v_lt, v_le, v_gt, v_ge, v_eqi, v_nei, v_is, v_isNot, v_len, v_lenT, v_abs, v_int, v_item, v_itemT, v_list, v_max, v_min, v_repr, blD_bl, truD_bl, truD_lst, isF_int, isF_bl, isF_non, isF_tup, isF_str, isF_lf, isF_lk, isF_lo, isF_ll, at_0, at_1, at_2, ix_0, ix_1, ix_2, cap_i, cap_t, noL_i, noL_n, noL_b, noL_t, ck_0, ck_s, lk_0, lk_1, lk_2, lk_3, lk_4, ln_0, ln_1, ln_2, ln_3, ln_4, own_o, own_l, own_f, its_o, its_l, its_f, lend_o, lend_i, lend_b, lend_n, lend_s, lend_t, cap_k, cap_f, lend_l, lend_f, sh_o, sh_l, sh_f, sh_k, Bool.or_true, Bool.true_or, Bool.or_false, Bool.false_or, intD, isLst, lstO, List.set_cons_zero, List.set_cons_succ, bind_S, ty_i, ty_b, ty_s, ty_t, ty_l, ty_n, is_ii, is_ib, is_is, is_it, is_il, is_bi, is_bb, is_bs, is_bt, is_bl, is_si, is_sb, is_ss, is_st, is_sl, is_ti, is_tb, is_ts, is_tt, is_tl, is_li, is_lb, is_ls, is_lt, is_ll, is_ni, is_nb, is_ns, is_nt, is_nl, v_eqS, v_neS, v_inS, v_notInS, truD_n, truD_t, cap_s, cap_n, cap_b, noL_s, its_t, own_t, own_s, its_s, sv_n, sv_i, sv_s, sv_b, isStr_s, isNon_n, isNon_i, isNon_s, isNon_t, isNon_l, v_tup, forL_0, kL_nx, kL_ct, kL_bk, kL_rt, kL_ex, tg_n, tg_t, tg_0, tg_s, wp_0, wp_s, bk_0, bk_s, rd_0, rd_s, sb_a, sb_l, si_a, si_l, hd_0, out_t, out_f, argD, ite_self, List.map_cons, List.map_nil, List.append_nil, List.cons_append, List.nil_append, Bool.and_true, Bool.true_and, Bool.not_true, Bool.not_false, Bool.and_false, Bool.false_and, true_and, and_true, decide_eq_true_eq, Bool.false_eq_true, if_false, if_true, ite_true, ite_false, reduceIte, Bool.not_eq_true', Bool.true_eq_false, eq_self]
    rw [show (decide ((([D.bl true, D.int y].length : Nat) : Int) = 2)) = true from rfl]
    simp only [e_cst, e_nil, e_yes, e_var, e_fv, e_mv, e_cons, e_dfr, e_op, e_tup, e_lst, e_tr, e_notT, e_andT, e_orT, e_andV, e_orV, e_notV, e_opq, e_if, e_call, e_callM, e_chain, e_src, e_rng, e_lc, g_nx, g_retN, g_brk, g_cnt, g_seq, g_drop, g_ret, g_asg, g_if, g_for, g_app, g_set, kk_ok, kS_ok, kQ_nx, kQ_rt, kQ_bk, kQ_ct, kk_ex, kS_ex, kQ_ex, g_raise, e_isi, g_asgT, e_grd, g_try, g_tryAs, g_appT, e_chainN, lkQ_1, lkQ_2, noX_rt, noX_nx, noX_bk, noX_ct, hdQ_0, hdQ_s, tryQ_ex, tryQ_rt, tryQ_nx, tryQ_bk, tryQ_ct, tasQ_ex, tasQ_rt, tasQ_nx, tasQ_bk, tasQ_ct, has_some, sl_0, sl_s, st_0, st_s, v_add, v_sub, v_neg, v_lt, v_le, v_gt, v_ge, v_eqi, v_nei, v_is, v_isNot, v_len, v_lenT, v_abs, v_int, v_item, v_itemT, v_list, v_max, v_min, v_repr, blD_bl, truD_bl, truD_lst, isF_int, isF_bl, isF_non, isF_tup, isF_str, isF_lf, isF_lk, isF_lo, isF_ll, at_0, at_1, at_2, ix_0, ix_1, ix_2, cap_i, cap_t, noL_i, noL_n, noL_b, noL_t, ck_0, ck_s, lk_0, lk_1, lk_2, lk_3, lk_4, ln_0, ln_1, ln_2, ln_3, ln_4, own_o, own_l, own_f, its_o, its_l, its_f, lend_o, lend_i, lend_b, lend_n, lend_s, lend_t, cap_k, cap_f, lend_l, lend_f, sh_o, sh_l, sh_f, sh_k, Bool.or_true, Bool.true_or, Bool.or_false, Bool.false_or, intD, isLst, lstO, List.set_cons_zero, List.set_cons_succ, bind_S, ty_i, ty_b, ty_s, ty_t, ty_l, ty_n, is_ii, is_ib, is_is, is_it, is_il, is_bi, is_bb, is_bs, is_bt, is_bl, is_si, is_sb, is_ss, is_st, is_sl, is_ti, is_tb, is_ts, is_tt, is_tl, is_li, is_lb, is_ls, is_lt, is_ll, is_ni, is_nb, is_ns, is_nt, is_nl, v_eqS, v_neS, v_inS, v_notInS, truD_n, truD_t, cap_s, cap_n, cap_b, noL_s, its_t, own_t, own_s, its_s, sv_n, sv_i, sv_s, sv_b, isStr_s, isNon_n, isNon_i, isNon_s, isNon_t, isNon_l, v_tup, forL_0, kL_nx, kL_ct, kL_bk, kL_rt, kL_ex, tg_n, tg_t, tg_0, tg_s, wp_0, wp_s, bk_0, bk_s, rd_0, rd_s, sb_a, sb_l, si_a, si_l, hd_0, out_t, out_f, argD, ite_self, List.map_cons, List.map_nil, List.append_nil, List.cons_append, List.nil_append, Bool.and_true, Bool.true_and, Bool.not_true, Bool.not_false, Bool.and_false, Bool.false_and, true_and, and_true, decide_eq_true_eq, Bool.false_eq_true, if_false, if_true, ite_true, ite_false, reduceIte, Bool.not_eq_true', Bool.true_eq_false, eq_self, ok_isnumB]
    exact h _ _ _ _ _
  | .two x y :: r, acc, l, a, b, c, hl, h => by
    simp only [List.length_cons] at hl
    have hl2 : (acc.map enc).length < 1000000 := by rw [List.length_map]; omega
    have hs : acc.map enc ++ [D.tup [.int x, .int y]] = (acc ++ [Row.two x y]).map enc := snocR acc (Row.two x y)
    have bad : goodL (l.getD (-2)) (.two x y :: r) = false → ∀ l' f a b c, K (.ex ⟨2, []⟩, [some d, l', f, a, b, c]) := fun e l' f a b c => by
      have := h l' f a b c
      rw [e] at this
      exact this
    simp only [List.map_cons, forL_s, enc, bd_checked_spans_0, e_cst, e_nil, e_yes, e_var, e_fv, e_mv, e_cons, e_dfr, e_op, e_tup, e_lst, e_tr, e_notT, e_andT, e_orT, e_andV, e_orV, e_notV, e_opq, e_if, e_call, e_callM, e_chain, e_src, e_rng, e_lc, g_nx, g_retN, g_brk, g_cnt, g_seq, g_drop, g_ret, g_asg, g_if, g_for, g_app, g_set, kk_ok, kS_ok, kQ_nx, kQ_rt, kQ_bk, kQ_ct, kk_ex, kS_ex, kQ_ex, g_raise, e_isi, g_asgT, e_grd, g_try, g_tryAs, g_appT, e_chainN, lkQ_1, lkQ_2, noX_rt, noX_nx, noX_bk, noX_ct, hdQ_0, hdQ_s, tryQ_ex, tryQ_rt, tryQ_nx, tryQ_bk, tryQ_ct, tasQ_ex, tasQ_rt, tasQ_nx, tasQ_bk, tasQ_ct, has_some, sl_0, sl_s, st_0, st_s, v_add, v_sub, v_neg, v_lt, v_le, v_gt, v_ge, v_eqi, v_nei, v_is, v_isNot, v_len, v_lenT, v_abs, v_int, v_item, v_itemT, v_list, v_max, v_min, v_repr, blD_bl, truD_bl, truD_lst, isF_int, isF_bl, isF_non, isF_tup, isF_str, isF_lf, isF_lk, isF_lo, isF_ll, at_0, at_1, at_2, ix_0, ix_1, ix_2, cap_i, cap_t, noL_i, noL_n, noL_b, noL_t, ck_0, ck_s, lk_0, lk_1, lk_2, lk_3, lk_4, ln_0, ln_1, ln_2, ln_3, ln_4, own_o, own_l, own_f, its_o, its_l, its_f, lend_o, lend_i, lend_b, lend_n, lend_s, lend_t, cap_k, cap_f, lend_l, lend_f, sh_o, sh_l, sh_f, sh_k, Bool.or_true, Bool.true_or, Bool.or_false, Bool.false_or, intD, isLst, lstO, List.set_cons_zero, List.set_cons_succ, bind_S, ty_i, ty_b, ty_s, ty_t, ty_l, ty_n, is_ii, is_ib, is_is, is_it, is_il, is_bi, is_bb, is_bs, is_bt, is_bl, is_si, is_sb, is_ss, is_st, is_sl, is_ti, is_tb, is_ts, is_tt, is_tl, is_li, is_lb, is_ls, is_lt, is_ll, is_ni, is_nb, is_ns, is_nt, is_nl, v_eqS, v_neS, v_inS, v_notInS, truD_n, truD_t, cap_s, cap_n, cap_b, noL_s, its_t, own_t, own_s, its_s, sv_n, sv_i, sv_s, sv_b, isStr_s, isNon_n, isNon_i, isNon_s, isNon_t, isNon_l, v_tup, forL_0, kL_nx, kL_ct, kL_bk, kL_rt, kL_ex, tg_n, tg_t, tg_0, tg_s, wp_0, wp_s, bk_0, bk_s, rd_0, rd_s, sb_a, sb_l, si_a, si_l, hd_0, out_t, out_f, argD, ite_self, List.map_cons, List.map_nil, List.append_nil, List.cons_append, List.nil_append, Bool.and_true, Bool.true_and, Bool.not_true, Bool.not_false, Bool.and_false, Bool.false_and, true_and, and_true, decide_eq_true_eq, Bool.false_eq_true, if_false, if_true, ite_true, ite_false, reduceIte, Bool.not_eq_true', Bool.true_eq_false, eq_self]
    rw [show (decide ((([D.int x, D.int y].length : Nat) : Int) = 2)) = true from rfl]
    simp only [e_cst, e_nil, e_yes, e_var, e_fv, e_mv, e_cons, e_dfr, e_op, e_tup, e_lst, e_tr, e_notT, e_andT, e_orT, e_andV, e_orV, e_notV, e_opq, e_if, e_call, e_callM, e_chain, e_src, e_rng, e_lc, g_nx, g_retN, g_brk, g_cnt, g_seq, g_drop, g_ret, g_asg, g_if, g_for, g_app, g_set, kk_ok, kS_ok, kQ_nx, kQ_rt, kQ_bk, kQ_ct, kk_ex, kS_ex, kQ_ex, g_raise, e_isi, g_asgT, e_grd, g_try, g_tryAs, g_appT, e_chainN, lkQ_1, lkQ_2, noX_rt, noX_nx, noX_bk, noX_ct, hdQ_0, hdQ_s, tryQ_ex, tryQ_rt, tryQ_nx, tryQ_bk, tryQ_ct, tasQ_ex, tasQ_rt, tasQ_nx, tasQ_bk, tasQ_ct, has_some, sl_0, sl_s, st_0, st_s, v_add, v_sub, v_neg, v_lt, v_le, v_gt, v_ge, v_eqi, v_nei, v_is, v_isNot, v_len, v_lenT, v_abs, v_int, v_item, v_itemT, v_list, v_max, v_min, v_repr, blD_bl, truD_bl, truD_lst, isF_int, isF_bl, isF_non, isF_tup, isF_str, isF_lf, isF_lk, isF_lo, isF_ll, at_0, at_1, at_2, ix_0, ix_1, ix_2, cap_i, cap_t, noL_i, noL_n, noL_b, noL_t, ck_0, ck_s, lk_0, lk_1, lk_2, lk_3, lk_4, ln_0, ln_1, ln_2, ln_3, ln_4, own_o, own_l, own_f, its_o, its_l, its_f, lend_o, lend_i, lend_b, lend_n, lend_s, lend_t, cap_k, cap_f, lend_l, lend_f, sh_o, sh_l, sh_f, sh_k, Bool.or_true, Bool.true_or, Bool.or_false, Bool.false_or, intD, isLst, lstO, List.set_cons_zero, List.set_cons_succ, bind_S, ty_i, ty_b, ty_s, ty_t, ty_l, ty_n, is_ii, is_ib, is_is, is_it, is_il, is_bi, is_bb, is_bs, is_bt, is_bl, is_si, is_sb, is_ss, is_st, is_sl, is_ti, is_tb, is_ts, is_tt, is_tl, is_li, is_lb, is_ls, is_lt, is_ll, is_ni, is_nb, is_ns, is_nt, is_nl, v_eqS, v_neS, v_inS, v_notInS, truD_n, truD_t, cap_s, cap_n, cap_b, noL_s, its_t, own_t, own_s, its_s, sv_n, sv_i, sv_s, sv_b, isStr_s, isNon_n, isNon_i, isNon_s, isNon_t, isNon_l, v_tup, forL_0, kL_nx, kL_ct, kL_bk, kL_rt, kL_ex, tg_n, tg_t, tg_0, tg_s, wp_0, wp_s, bk_0, bk_s, rd_0, rd_s, sb_a, sb_l, si_a, si_l, hd_0, out_t, out_f, argD, ite_self, List.map_cons, List.map_nil, List.append_nil, List.cons_append, List.nil_append, Bool.and_true, Bool.true_and, Bool.not_true, Bool.not_false, Bool.and_false, Bool.false_and, true_and, and_true, decide_eq_true_eq, Bool.false_eq_true, if_false, if_true, ite_true, ite_false, reduceIte, Bool.not_eq_true', Bool.true_eq_false, eq_self, ok_isnum]
    by_cases hx : 0 ≤ x ∧ x ≤ 20000
    · by_cases hy : 0 ≤ y ∧ y ≤ 20000
      · by_cases hxy : y < x
        · simp only [hx.1, hx.2, hy.1, hy.2, hxy, e_cst, e_nil, e_yes, e_var, e_fv, e_mv, e_cons, e_dfr, e_op, e_tup, e_lst, e_tr, e_notT, e_andT, e_orT, e_andV, e_orV, e_notV, e_opq, e_if, e_call, e_callM, e_chain, e_src, e_rng, e_lc, g_nx, g_retN, g_brk, g_cnt, g_seq, g_drop, g_ret, g_asg, g_if, g_for, g_app, g_set, kk_ok, kS_ok, kQ_nx, kQ_rt, kQ_bk, kQ_ct, kk_ex, kS_ex, kQ_ex, g_raise, e_isi, g_asgT, e_grd, g_try, g_tryAs, g_appT, e_chainN, lkQ_1, lkQ_2, noX_rt, noX_nx, noX_bk, noX_ct, hdQ_0, hdQ_s, tryQ_ex, tryQ_rt, tryQ_nx, tryQ_bk, tryQ_ct, tasQ_ex, tasQ_rt, tasQ_nx, tasQ_bk, tasQ_ct, has_some, sl_0, sl_s, st_0, st_s, v_add, v_sub, v_neg, v_lt, v_le, v_gt, v_ge, v_eqi, v_nei, v_is, v_isNot, v_len, v_lenT, v_abs, v_int, v_item, v_itemT, v_list, v_max, v_min, v_repr, blD_bl, truD_bl, truD_lst, isF_int, isF_bl, isF_non, isF_tup, isF_str, isF_lf, isF_lk, isF_lo, isF_ll, at_0, at_1, at_2, ix_0, ix_1, ix_2, cap_i, cap_t, noL_i, noL_n, noL_b, noL_t, ck_0, ck_s, lk_0, lk_1, lk_2, lk_3, lk_4, ln_0, ln_1, ln_2, ln_3, ln_4, own_o, own_l, own_f, its_o, its_l, its_f, lend_o, lend_i, lend_b, lend_n, lend_s, lend_t, cap_k, cap_f, lend_l, lend_f, sh_o, sh_l, sh_f, sh_k, Bool.or_true, Bool.true_or, Bool.or_false, Bool.false_or, intD, isLst, lstO, List.set_cons_zero, List.set_cons_succ, bind_S, ty_i, ty_b, ty_s, ty_t, ty_l, ty_n, is_ii, is_ib, is_is, is_it, is_il, is_bi, is_bb, is_bs, is_bt, is_bl, is_si, is_sb, is_ss, is_st, is_sl, is_ti, is_tb, is_ts, is_tt, is_tl, is_li, is_lb, is_ls, is_lt, is_ll, is_ni, is_nb, is_ns, is_nt, is_nl, v_eqS, v_neS, v_inS, v_notInS, truD_n, truD_t, cap_s, cap_n, cap_b, noL_s, its_t, own_t, own_s, its_s, sv_n, sv_i, sv_s, sv_b, isStr_s, isNon_n, isNon_i, isNon_s, isNon_t, isNon_l, v_tup, forL_0, kL_nx, kL_ct, kL_bk, kL_rt, kL_ex, tg_n, tg_t, tg_0, tg_s, wp_0, wp_s, bk_0, bk_s, rd_0, rd_s, sb_a, sb_l, si_a, si_l, hd_0, out_t, out_f, argD, ite_self, List.map_cons, List.map_nil, List.append_nil, List.cons_append, List.nil_append, Bool.and_true, Bool.true_and, Bool.not_true, Bool.not_false, Bool.and_false, Bool.false_and, true_and, and_true, decide_eq_true_eq, Bool.false_eq_true, if_false, if_true, ite_true, ite_false, reduceIte, Bool.not_eq_true', Bool.true_eq_false, eq_self, decide_true, decide_false]
          exact bad (by simp [goodL]; omega) _ _ _ _ _
        · simp only [hx.1, hx.2, hy.1, hy.2, hxy, e_cst, e_nil, e_yes, e_var, e_fv, e_mv, e_cons, e_dfr, e_op, e_tup, e_lst, e_tr, e_notT, e_andT, e_orT, e_andV, e_orV, e_notV, e_opq, e_if, e_call, e_callM, e_chain, e_src, e_rng, e_lc, g_nx, g_retN, g_brk, g_cnt, g_seq, g_drop, g_ret, g_asg, g_if, g_for, g_app, g_set, kk_ok, kS_ok, kQ_nx, kQ_rt, kQ_bk, kQ_ct, kk_ex, kS_ex, kQ_ex, g_raise, e_isi, g_asgT, e_grd, g_try, g_tryAs, g_appT, e_chainN, lkQ_1, lkQ_2, noX_rt, noX_nx, noX_bk, noX_ct, hdQ_0, hdQ_s, tryQ_ex, tryQ_rt, tryQ_nx, tryQ_bk, tryQ_ct, tasQ_ex, tasQ_rt, tasQ_nx, tasQ_bk, tasQ_ct, has_some, sl_0, sl_s, st_0, st_s, v_add, v_sub, v_neg, v_lt, v_le, v_gt, v_ge, v_eqi, v_nei, v_is, v_isNot, v_len, v_lenT, v_abs, v_int, v_item, v_itemT, v_list, v_max, v_min, v_repr, blD_bl, truD_bl, truD_lst, isF_int, isF_bl, isF_non, isF_tup, isF_str, isF_lf, isF_lk, isF_lo, isF_ll, at_0, at_1, at_2, ix_0, ix_1, ix_2, cap_i, cap_t, noL_i, noL_n, noL_b, noL_t, ck_0, ck_s, lk_0, lk_1, lk_2, lk_3, lk_4, ln_0, ln_1, ln_2, ln_3, ln_4, own_o, own_l, own_f, its_o, its_l, its_f, lend_o, lend_i, lend_b, lend_n, lend_s, lend_t, cap_k, cap_f, lend_l, lend_f, sh_o, sh_l, sh_f, sh_k, Bool.or_true, Bool.true_or, Bool.or_false, Bool.false_or, intD, isLst, lstO, List.set_cons_zero, List.set_cons_succ, bind_S, ty_i, ty_b, ty_s, ty_t, ty_l, ty_n, is_ii, is_ib, is_is, is_it, is_il, is_bi, is_bb, is_bs, is_bt, is_bl, is_si, is_sb, is_ss, is_st, is_sl, is_ti, is_tb, is_ts, is_tt, is_tl, is_li, is_lb, is_ls, is_lt, is_ll, is_ni, is_nb, is_ns, is_nt, is_nl, v_eqS, v_neS, v_inS, v_notInS, truD_n, truD_t, cap_s, cap_n, cap_b, noL_s, its_t, own_t, own_s, its_s, sv_n, sv_i, sv_s, sv_b, isStr_s, isNon_n, isNon_i, isNon_s, isNon_t, isNon_l, v_tup, forL_0, kL_nx, kL_ct, kL_bk, kL_rt, kL_ex, tg_n, tg_t, tg_0, tg_s, wp_0, wp_s, bk_0, bk_s, rd_0, rd_s, sb_a, sb_l, si_a, si_l, hd_0, out_t, out_f, argD, ite_self, List.map_cons, List.map_nil, List.append_nil, List.cons_append, List.nil_append, Bool.and_true, Bool.true_and, Bool.not_true, Bool.not_false, Bool.and_false, Bool.false_and, true_and, and_true, decide_eq_true_eq, Bool.false_eq_true, if_false, if_true, ite_true, ite_false, reduceIte, Bool.not_eq_true', Bool.true_eq_false, eq_self, decide_true, decide_false]
          cases l with
          | none =>
            have e : goodL ((none : Option Int).getD (-2)) (.two x y :: r) = goodL y r := by
              have h1 : x ≤ y := by omega
              simp [goodL, hx, hy, h1]
            rw [e] at h
            simp only [oi, e_cst, e_nil, e_yes, e_var, e_fv, e_mv, e_cons, e_dfr, e_op, e_tup, e_lst, e_tr, e_notT, e_andT, e_orT, e_andV, e_orV, e_notV, e_opq, e_if, e_call, e_callM, e_chain, e_src, e_rng, e_lc, g_nx, g_retN, g_brk, g_cnt, g_seq, g_drop, g_ret, g_asg, g_if, g_for, g_app, g_set, kk_ok, kS_ok, kQ_nx, kQ_rt, kQ_bk, kQ_ct, kk_ex, kS_ex, kQ_ex, g_raise, e_isi, g_asgT, e_grd, g_try, g_tryAs, g_appT, e_chainN, lkQ_1, lkQ_2, noX_rt, noX_nx, noX_bk, noX_ct, hdQ_0, hdQ_s, tryQ_ex, tryQ_rt, tryQ_nx, tryQ_bk, tryQ_ct, tasQ_ex, tasQ_rt, tasQ_nx, tasQ_bk, tasQ_ct, has_some, sl_0, sl_s, st_0, st_s, v_add, v_sub, v_neg, v_lt, v_le, v_gt, v_ge, v_eqi, v_nei, v_is, v_isNot, v_len, v_lenT, v_abs, v_int, v_item, v_itemT, v_list, v_max, v_min, v_repr, blD_bl, truD_bl, truD_lst, isF_int, isF_bl, isF_non, isF_tup, isF_str, isF_lf, isF_lk, isF_lo, isF_ll, at_0, at_1, at_2, ix_0, ix_1, ix_2, cap_i, cap_t, noL_i, noL_n, noL_b, noL_t, ck_0, ck_s, lk_0, lk_1, lk_2, lk_3, lk_4, ln_0, ln_1, ln_2, ln_3, ln_4, own_o, own_l, own_f, its_o, its_l, its_f, lend_o, lend_i, lend_b, lend_n, lend_s, lend_t, cap_k, cap_f, lend_l, lend_f, sh_o, sh_l, sh_f, sh_k, Bool.or_true, Bool.true_or, Bool.or_false, Bool.false_or, intD, isLst, lstO, List.set_cons_zero, List.set_cons_succ, bind_S, ty_i, ty_b, ty_s, ty_t, ty_l, ty_n, is_ii, is_ib, is_is, is_it, is_il, is_bi, is_bb, is_bs, is_bt, is_bl, is_si, is_sb, is_ss, is_st, is_sl, is_ti, is_tb, is_ts, is_tt, is_tl, is_li, is_lb, is_ls, is_lt, is_ll, is_ni, is_nb, is_ns, is_nt, is_nl, v_eqS, v_neS, v_inS, v_notInS, truD_n, truD_t, cap_s, cap_n, cap_b, noL_s, its_t, own_t, own_s, its_s, sv_n, sv_i, sv_s, sv_b, isStr_s, isNon_n, isNon_i, isNon_s, isNon_t, isNon_l, v_tup, forL_0, kL_nx, kL_ct, kL_bk, kL_rt, kL_ex, tg_n, tg_t, tg_0, tg_s, wp_0, wp_s, bk_0, bk_s, rd_0, rd_s, sb_a, sb_l, si_a, si_l, hd_0, out_t, out_f, argD, ite_self, List.map_cons, List.map_nil, List.append_nil, List.cons_append, List.nil_append, Bool.and_true, Bool.true_and, Bool.not_true, Bool.not_false, Bool.and_false, Bool.false_and, true_and, and_true, decide_eq_true_eq, Bool.false_eq_true, if_false, if_true, ite_true, ite_false, reduceIte, Bool.not_eq_true', Bool.true_eq_false, eq_self, hl2]
            rw [hs]
            refine lp_chk r (acc ++ [Row.two x y]) (some y) _ _ _ (by simp; omega) fun l' f a b c => ?_
            have := h l' f a b c
            simpa using this
          | some z =>
            by_cases hz : x ≤ z + 1
            · simp only [oi, e_cst, e_nil, e_yes, e_var, e_fv, e_mv, e_cons, e_dfr, e_op, e_tup, e_lst, e_tr, e_notT, e_andT, e_orT, e_andV, e_orV, e_notV, e_opq, e_if, e_call, e_callM, e_chain, e_src, e_rng, e_lc, g_nx, g_retN, g_brk, g_cnt, g_seq, g_drop, g_ret, g_asg, g_if, g_for, g_app, g_set, kk_ok, kS_ok, kQ_nx, kQ_rt, kQ_bk, kQ_ct, kk_ex, kS_ex, kQ_ex, g_raise, e_isi, g_asgT, e_grd, g_try, g_tryAs, g_appT, e_chainN, lkQ_1, lkQ_2, noX_rt, noX_nx, noX_bk, noX_ct, hdQ_0, hdQ_s, tryQ_ex, tryQ_rt, tryQ_nx, tryQ_bk, tryQ_ct, tasQ_ex, tasQ_rt, tasQ_nx, tasQ_bk, tasQ_ct, has_some, sl_0, sl_s, st_0, st_s, v_add, v_sub, v_neg, v_lt, v_le, v_gt, v_ge, v_eqi, v_nei, v_is, v_isNot, v_len, v_lenT, v_abs, v_int, v_item, v_itemT, v_list, v_max, v_min, v_repr, blD_bl, truD_bl, truD_lst, isF_int, isF_bl, isF_non, isF_tup, isF_str, isF_lf, isF_lk, isF_lo, isF_ll, at_0, at_1, at_2, ix_0, ix_1, ix_2, cap_i, cap_t, noL_i, noL_n, noL_b, noL_t, ck_0, ck_s, lk_0, lk_1, lk_2, lk_3, lk_4, ln_0, ln_1, ln_2, ln_3, ln_4, own_o, own_l, own_f, its_o, its_l, its_f, lend_o, lend_i, lend_b, lend_n, lend_s, lend_t, cap_k, cap_f, lend_l, lend_f, sh_o, sh_l, sh_f, sh_k, Bool.or_true, Bool.true_or, Bool.or_false, Bool.false_or, intD, isLst, lstO, List.set_cons_zero, List.set_cons_succ, bind_S, ty_i, ty_b, ty_s, ty_t, ty_l, ty_n, is_ii, is_ib, is_is, is_it, is_il, is_bi, is_bb, is_bs, is_bt, is_bl, is_si, is_sb, is_ss, is_st, is_sl, is_ti, is_tb, is_ts, is_tt, is_tl, is_li, is_lb, is_ls, is_lt, is_ll, is_ni, is_nb, is_ns, is_nt, is_nl, v_eqS, v_neS, v_inS, v_notInS, truD_n, truD_t, cap_s, cap_n, cap_b, noL_s, its_t, own_t, own_s, its_s, sv_n, sv_i, sv_s, sv_b, isStr_s, isNon_n, isNon_i, isNon_s, isNon_t, isNon_l, v_tup, forL_0, kL_nx, kL_ct, kL_bk, kL_rt, kL_ex, tg_n, tg_t, tg_0, tg_s, wp_0, wp_s, bk_0, bk_s, rd_0, rd_s, sb_a, sb_l, si_a, si_l, hd_0, out_t, out_f, argD, ite_self, List.map_cons, List.map_nil, List.append_nil, List.cons_append, List.nil_append, Bool.and_true, Bool.true_and, Bool.not_true, Bool.not_false, Bool.and_false, Bool.false_and, true_and, and_true, decide_eq_true_eq, Bool.false_eq_true, if_false, if_true, ite_true, ite_false, reduceIte, Bool.not_eq_true', Bool.true_eq_false, eq_self, hz, decide_true]
              exact bad (by simp [goodL]; omega) _ _ _ _ _
            · have e : goodL ((some z : Option Int).getD (-2)) (.two x y :: r) = goodL y r := by
                have h1 : x ≤ y := by omega
                have h2 : z + 2 ≤ x := by omega
                simp [goodL, hx, hy, h1, h2]
              rw [e] at h
              simp only [oi, e_cst, e_nil, e_yes, e_var, e_fv, e_mv, e_cons, e_dfr, e_op, e_tup, e_lst, e_tr, e_notT, e_andT, e_orT, e_andV, e_orV, e_notV, e_opq, e_if, e_call, e_callM, e_chain, e_src, e_rng, e_lc, g_nx, g_retN, g_brk, g_cnt, g_seq, g_drop, g_ret, g_asg, g_if, g_for, g_app, g_set, kk_ok, kS_ok, kQ_nx, kQ_rt, kQ_bk, kQ_ct, kk_ex, kS_ex, kQ_ex, g_raise, e_isi, g_asgT, e_grd, g_try, g_tryAs, g_appT, e_chainN, lkQ_1, lkQ_2, noX_rt, noX_nx, noX_bk, noX_ct, hdQ_0, hdQ_s, tryQ_ex, tryQ_rt, tryQ_nx, tryQ_bk, tryQ_ct, tasQ_ex, tasQ_rt, tasQ_nx, tasQ_bk, tasQ_ct, has_some, sl_0, sl_s, st_0, st_s, v_add, v_sub, v_neg, v_lt, v_le, v_gt, v_ge, v_eqi, v_nei, v_is, v_isNot, v_len, v_lenT, v_abs, v_int, v_item, v_itemT, v_list, v_max, v_min, v_repr, blD_bl, truD_bl, truD_lst, isF_int, isF_bl, isF_non, isF_tup, isF_str, isF_lf, isF_lk, isF_lo, isF_ll, at_0, at_1, at_2, ix_0, ix_1, ix_2, cap_i, cap_t, noL_i, noL_n, noL_b, noL_t, ck_0, ck_s, lk_0, lk_1, lk_2, lk_3, lk_4, ln_0, ln_1, ln_2, ln_3, ln_4, own_o, own_l, own_f, its_o, its_l, its_f, lend_o, lend_i, lend_b, lend_n, lend_s, lend_t, cap_k, cap_f, lend_l, lend_f, sh_o, sh_l, sh_f, sh_k, Bool.or_true, Bool.true_or, Bool.or_false, Bool.false_or, intD, isLst, lstO, List.set_cons_zero, List.set_cons_succ, bind_S, ty_i, ty_b, ty_s, ty_t, ty_l, ty_n, is_ii, is_ib, is_is, is_it, is_il, is_bi, is_bb, is_bs, is_bt, is_bl, is_si, is_sb, is_ss, is_st, is_sl, is_ti, is_tb, is_ts, is_tt, is_tl, is_li, is_lb, is_ls, is_lt, is_ll, is_ni, is_nb, is_ns, is_nt, is_nl, v_eqS, v_neS, v_inS, v_notInS, truD_n, truD_t, cap_s, cap_n, cap_b, noL_s, its_t, own_t, own_s, its_s, sv_n, sv_i, sv_s, sv_b, isStr_s, isNon_n, isNon_i, isNon_s, isNon_t, isNon_l, v_tup, forL_0, kL_nx, kL_ct, kL_bk, kL_rt, kL_ex, tg_n, tg_t, tg_0, tg_s, wp_0, wp_s, bk_0, bk_s, rd_0, rd_s, sb_a, sb_l, si_a, si_l, hd_0, out_t, out_f, argD, ite_self, List.map_cons, List.map_nil, List.append_nil, List.cons_append, List.nil_append, Bool.and_true, Bool.true_and, Bool.not_true, Bool.not_false, Bool.and_false, Bool.false_and, true_and, and_true, decide_eq_true_eq, Bool.false_eq_true, if_false, if_true, ite_true, ite_false, reduceIte, Bool.not_eq_true', Bool.true_eq_false, eq_self, hl2, hz, decide_false]
              rw [hs]
              refine lp_chk r (acc ++ [Row.two x y]) (some y) _ _ _ (by simp; omega) fun l' f a b c => ?_
              have := h l' f a b c
              simpa using this
      · have e : (decide (0 ≤ y) && decide (y ≤ 20000)) = false := by rw [Bool.eq_false_iff]; simpa using hy
        simp only [hx.1, hx.2, e, e_cst, e_nil, e_yes, e_var, e_fv, e_mv, e_cons, e_dfr, e_op, e_tup, e_lst, e_tr, e_notT, e_andT, e_orT, e_andV, e_orV, e_notV, e_opq, e_if, e_call, e_callM, e_chain, e_src, e_rng, e_lc, g_nx, g_retN, g_brk, g_cnt, g_seq, g_drop, g_ret, g_asg, g_if, g_for, g_app, g_set, kk_ok, kS_ok, kQ_nx, kQ_rt, kQ_bk, kQ_ct, kk_ex, kS_ex, kQ_ex, g_raise, e_isi, g_asgT, e_grd, g_try, g_tryAs, g_appT, e_chainN, lkQ_1, lkQ_2, noX_rt, noX_nx, noX_bk, noX_ct, hdQ_0, hdQ_s, tryQ_ex, tryQ_rt, tryQ_nx, tryQ_bk, tryQ_ct, tasQ_ex, tasQ_rt, tasQ_nx, tasQ_bk, tasQ_ct, has_some, sl_0, sl_s, st_0, st_s, v_add, v_sub, v_neg, v_lt, v_le, v_gt, v_ge, v_eqi, v_nei, v_is, v_isNot, v_len, v_lenT, v_abs, v_int, v_item, v_itemT, v_list, v_max, v_min, v_repr, blD_bl, truD_bl, truD_lst, isF_int, isF_bl, isF_non, isF_tup, isF_str, isF_lf, isF_lk, isF_lo, isF_ll, at_0, at_1, at_2, ix_0, ix_1, ix_2, cap_i, cap_t, noL_i, noL_n, noL_b, noL_t, ck_0, ck_s, lk_0, lk_1, lk_2, lk_3, lk_4, ln_0, ln_1, ln_2, ln_3, ln_4, own_o, own_l, own_f, its_o, its_l, its_f, lend_o, lend_i, lend_b, lend_n, lend_s, lend_t, cap_k, cap_f, lend_l, lend_f, sh_o, sh_l, sh_f, sh_k, Bool.or_true, Bool.true_or, Bool.or_false, Bool.false_or, intD, isLst, lstO, List.set_cons_zero, List.set_cons_succ, bind_S, ty_i, ty_b, ty_s, ty_t, ty_l, ty_n, is_ii, is_ib, is_is, is_it, is_il, is_bi, is_bb, is_bs, is_bt, is_bl, is_si, is_sb, is_ss, is_st, is_sl, is_ti, is_tb, is_ts, is_tt, is_tl, is_li, is_lb, is_ls, is_lt, is_ll, is_ni, is_nb, is_ns, is_nt, is_nl, v_eqS, v_neS, v_inS, v_notInS, truD_n, truD_t, cap_s, cap_n, cap_b, noL_s, its_t, own_t, own_s, its_s, sv_n, sv_i, sv_s, sv_b, isStr_s, isNon_n, isNon_i, isNon_s, isNon_t, isNon_l, v_tup, forL_0, kL_nx, kL_ct, kL_bk, kL_rt, kL_ex, tg_n, tg_t, tg_0, tg_s, wp_0, wp_s, bk_0, bk_s, rd_0, rd_s, sb_a, sb_l, si_a, si_l, hd_0, out_t, out_f, argD, ite_self, List.map_cons, List.map_nil, List.append_nil, List.cons_append, List.nil_append, Bool.and_true, Bool.true_and, Bool.not_true, Bool.not_false, Bool.and_false, Bool.false_and, true_and, and_true, decide_eq_true_eq, Bool.false_eq_true, if_false, if_true, ite_true, ite_false, reduceIte, Bool.not_eq_true', Bool.true_eq_false, eq_self, decide_true, decide_false]
        exact bad (by simp [goodL]; omega) _ _ _ _ _
    · have e : (decide (0 ≤ x) && decide (x ≤ 20000)) = false := by rw [Bool.eq_false_iff]; simpa using hx
      simp only [e, e_cst, e_nil, e_yes, e_var, e_fv, e_mv, e_cons, e_dfr, e_op, e_tup, e_lst, e_tr, e_notT, e_andT, e_orT, e_andV, e_orV, e_notV, e_opq, e_if, e_call, e_callM, e_chain, e_src, e_rng, e_lc, g_nx, g_retN, g_brk, g_cnt, g_seq, g_drop, g_ret, g_asg, g_if, g_for, g_app, g_set, kk_ok, kS_ok, kQ_nx, kQ_rt, kQ_bk, kQ_ct, kk_ex, kS_ex, kQ_ex, g_raise, e_isi, g_asgT, e_grd, g_try, g_tryAs, g_appT, e_chainN, lkQ_1, lkQ_2, noX_rt, noX_nx, noX_bk, noX_ct, hdQ_0, hdQ_s, tryQ_ex, tryQ_rt, tryQ_nx, tryQ_bk, tryQ_ct, tasQ_ex, tasQ_rt, tasQ_nx, tasQ_bk, tasQ_ct, has_some, sl_0, sl_s, st_0, st_s, v_add, v_sub, v_neg, v_lt, v_le, v_gt, v_ge, v_eqi, v_nei, v_is, v_isNot, v_len, v_lenT, v_abs, v_int, v_item, v_itemT, v_list, v_max, v_min, v_repr, blD_bl, truD_bl, truD_lst, isF_int, isF_bl, isF_non, isF_tup, isF_str, isF_lf, isF_lk, isF_lo, isF_ll, at_0, at_1, at_2, ix_0, ix_1, ix_2, cap_i, cap_t, noL_i, noL_n, noL_b, noL_t, ck_0, ck_s, lk_0, lk_1, lk_2, lk_3, lk_4, ln_0, ln_1, ln_2, ln_3, ln_4, own_o, own_l, own_f, its_o, its_l, its_f, lend_o, lend_i, lend_b, lend_n, lend_s, lend_t, cap_k, cap_f, lend_l, lend_f, sh_o, sh_l, sh_f, sh_k, Bool.or_true, Bool.true_or, Bool.or_false, Bool.false_or, intD, isLst, lstO, List.set_cons_zero, List.set_cons_succ, bind_S, ty_i, ty_b, ty_s, ty_t, ty_l, ty_n, is_ii, is_ib, is_is, is_it, is_il, is_bi, is_bb, is_bs, is_bt, is_bl, is_si, is_sb, is_ss, is_st, is_sl, is_ti, is_tb, is_ts, is_tt, is_tl, is_li, is_lb, is_ls, is_lt, is_ll, is_ni, is_nb, is_ns, is_nt, is_nl, v_eqS, v_neS, v_inS, v_notInS, truD_n, truD_t, cap_s, cap_n, cap_b, noL_s, its_t, own_t, own_s, its_s, sv_n, sv_i, sv_s, sv_b, isStr_s, isNon_n, isNon_i, isNon_s, isNon_t, isNon_l, v_tup, forL_0, kL_nx, kL_ct, kL_bk, kL_rt, kL_ex, tg_n, tg_t, tg_0, tg_s, wp_0, wp_s, bk_0, bk_s, rd_0, rd_s, sb_a, sb_l, si_a, si_l, hd_0, out_t, out_f, argD, ite_self, List.map_cons, List.map_nil, List.append_nil, List.cons_append, List.nil_append, Bool.and_true, Bool.true_and, Bool.not_true, Bool.not_false, Bool.and_false, Bool.false_and, true_and, and_true, decide_eq_true_eq, Bool.false_eq_true, if_false, if_true, ite_true, ite_false, reduceIte, Bool.not_eq_true', Bool.true_eq_false, eq_self]
      exact bad (by simp [goodL]; omega) _ _ _ _ _
theorem ok_checked {d : D} {xs : List Row} (hd : Sq d (xs.map enc)) (hl : xs.length ≤ 100000) : F_checked_spans [d] = some (if goodR xs = true then .ok (rwD .o xs) else .ex ⟨2, []⟩, [none]) := by
  unfold F_checked_spans
  refine fn_go rfl ?_
  show Go ev_checked_spans [some d, none, none, none, none, none] _
  by_cases h : xs.length ≤ 60
  · have h' : ¬ (60 : Int) < (xs.length : Int) := by omega
    have e : goodR xs = goodL (-2) xs := by unfold goodR; simp [h]
    simp only [ev_checked_spans, e_cst, e_nil, e_yes, e_var, e_fv, e_mv, e_cons, e_dfr, e_op, e_tup, e_lst, e_tr, e_notT, e_andT, e_orT, e_andV, e_orV, e_notV, e_opq, e_if, e_call, e_callM, e_chain, e_src, e_rng, e_lc, g_nx, g_retN, g_brk, g_cnt, g_seq, g_drop, g_ret, g_asg, g_if, g_for, g_app, g_set, kk_ok, kS_ok, kQ_nx, kQ_rt, kQ_bk, kQ_ct, kk_ex, kS_ex, kQ_ex, g_raise, e_isi, g_asgT, e_grd, g_try, g_tryAs, g_appT, e_chainN, lkQ_1, lkQ_2, noX_rt, noX_nx, noX_bk, noX_ct, hdQ_0, hdQ_s, tryQ_ex, tryQ_rt, tryQ_nx, tryQ_bk, tryQ_ct, tasQ_ex, tasQ_rt, tasQ_nx, tasQ_bk, tasQ_ct, has_some, sl_0, sl_s, st_0, st_s, v_add, v_sub, v_neg, v_lt, v_le, v_gt, v_ge, v_eqi, v_nei, v_is, v_isNot, v_len, v_lenT, v_abs, v_int, v_item, v_itemT, v_list, v_max, v_min, v_repr, blD_bl, truD_bl, truD_lst, isF_int, isF_bl, isF_non, isF_tup, isF_str, isF_lf, isF_lk, isF_lo, isF_ll, at_0, at_1, at_2, ix_0, ix_1, ix_2, cap_i, cap_t, noL_i, noL_n, noL_b, noL_t, ck_0, ck_s, lk_0, lk_1, lk_2, lk_3, lk_4, ln_0, ln_1, ln_2, ln_3, ln_4, own_o, own_l, own_f, its_o, its_l, its_f, lend_o, lend_i, lend_b, lend_n, lend_s, lend_t, cap_k, cap_f, lend_l, lend_f, sh_o, sh_l, sh_f, sh_k, Bool.or_true, Bool.true_or, Bool.or_false, Bool.false_or, intD, isLst, lstO, List.set_cons_zero, List.set_cons_succ, bind_S, ty_i, ty_b, ty_s, ty_t, ty_l, ty_n, is_ii, is_ib, is_is, is_it, is_il, is_bi, is_bb, is_bs, is_bt, is_bl, is_si, is_sb, is_ss, is_st, is_sl, is_ti, is_tb, is_ts, is_tt, is_tl, is_li, is_lb, is_ls, is_lt, is_ll, is_ni, is_nb, is_ns, is_nt, is_nl, v_eqS, v_neS, v_inS, v_notInS, truD_n, truD_t, cap_s, cap_n, cap_b, noL_s, its_t, own_t, own_s, its_s, sv_n, sv_i, sv_s, sv_b, isStr_s, isNon_n, isNon_i, isNon_s, isNon_t, isNon_l, v_tup, forL_0, kL_nx, kL_ct, kL_bk, kL_rt, kL_ex, tg_n, tg_t, tg_0, tg_s, wp_0, wp_s, bk_0, bk_s, rd_0, rd_s, sb_a, sb_l, si_a, si_l, hd_0, out_t, out_f, argD, ite_self, List.map_cons, List.map_nil, List.append_nil, List.cons_append, List.nil_append, Bool.and_true, Bool.true_and, Bool.not_true, Bool.not_false, Bool.and_false, Bool.false_and, true_and, and_true, decide_eq_true_eq, Bool.false_eq_true, if_false, if_true, ite_true, ite_false, reduceIte, Bool.not_eq_true', Bool.true_eq_false, eq_self, hd.its, hd.own, hd.len, List.length_map, h']
    refine lp_chk xs [] none none none none (by simpa using hl) fun l f a b c => ?_
    simp only [Option.getD_none]
    by_cases hg : goodL (-2) xs = true
    · simp only [e, hg, e_cst, e_nil, e_yes, e_var, e_fv, e_mv, e_cons, e_dfr, e_op, e_tup, e_lst, e_tr, e_notT, e_andT, e_orT, e_andV, e_orV, e_notV, e_opq, e_if, e_call, e_callM, e_chain, e_src, e_rng, e_lc, g_nx, g_retN, g_brk, g_cnt, g_seq, g_drop, g_ret, g_asg, g_if, g_for, g_app, g_set, kk_ok, kS_ok, kQ_nx, kQ_rt, kQ_bk, kQ_ct, kk_ex, kS_ex, kQ_ex, g_raise, e_isi, g_asgT, e_grd, g_try, g_tryAs, g_appT, e_chainN, lkQ_1, lkQ_2, noX_rt, noX_nx, noX_bk, noX_ct, hdQ_0, hdQ_s, tryQ_ex, tryQ_rt, tryQ_nx, tryQ_bk, tryQ_ct, tasQ_ex, tasQ_rt, tasQ_nx, tasQ_bk, tasQ_ct, has_some, sl_0, sl_s, st_0, st_s, v_add, v_sub, v_neg, v_lt, v_le, v_gt, v_ge, v_eqi, v_nei, v_is, v_isNot, v_len, v_lenT, v_abs, v_int, v_item, v_itemT, v_list, v_max, v_min, v_repr, blD_bl, truD_bl, truD_lst, isF_int, isF_bl, isF_non, isF_tup, isF_str, isF_lf, isF_lk, isF_lo, isF_ll, at_0, at_1, at_2, ix_0, ix_1, ix_2, cap_i, cap_t, noL_i, noL_n, noL_b, noL_t, ck_0, ck_s, lk_0, lk_1, lk_2, lk_3, lk_4, ln_0, ln_1, ln_2, ln_3, ln_4, own_o, own_l, own_f, its_o, its_l, its_f, lend_o, lend_i, lend_b, lend_n, lend_s, lend_t, cap_k, cap_f, lend_l, lend_f, sh_o, sh_l, sh_f, sh_k, Bool.or_true, Bool.true_or, Bool.or_false, Bool.false_or, intD, isLst, lstO, List.set_cons_zero, List.set_cons_succ, bind_S, ty_i, ty_b, ty_s, ty_t, ty_l, ty_n, is_ii, is_ib, is_is, is_it, is_il, is_bi, is_bb, is_bs, is_bt, is_bl, is_si, is_sb, is_ss, is_st, is_sl, is_ti, is_tb, is_ts, is_tt, is_tl, is_li, is_lb, is_ls, is_lt, is_ll, is_ni, is_nb, is_ns, is_nt, is_nl, v_eqS, v_neS, v_inS, v_notInS, truD_n, truD_t, cap_s, cap_n, cap_b, noL_s, its_t, own_t, own_s, its_s, sv_n, sv_i, sv_s, sv_b, isStr_s, isNon_n, isNon_i, isNon_s, isNon_t, isNon_l, v_tup, forL_0, kL_nx, kL_ct, kL_bk, kL_rt, kL_ex, tg_n, tg_t, tg_0, tg_s, wp_0, wp_s, bk_0, bk_s, rd_0, rd_s, sb_a, sb_l, si_a, si_l, hd_0, out_t, out_f, argD, ite_self, List.map_cons, List.map_nil, List.append_nil, List.cons_append, List.nil_append, Bool.and_true, Bool.true_and, Bool.not_true, Bool.not_false, Bool.and_false, Bool.false_and, true_and, and_true, decide_eq_true_eq, Bool.false_eq_true, if_false, if_true, ite_true, ite_false, reduceIte, Bool.not_eq_true', Bool.true_eq_false, eq_self]
      exact ⟨rfl, rfl⟩
    · simp only [e, Bool.eq_false_iff.mpr hg, e_cst, e_nil, e_yes, e_var, e_fv, e_mv, e_cons, e_dfr, e_op, e_tup, e_lst, e_tr, e_notT, e_andT, e_orT, e_andV, e_orV, e_notV, e_opq, e_if, e_call, e_callM, e_chain, e_src, e_rng, e_lc, g_nx, g_retN, g_brk, g_cnt, g_seq, g_drop, g_ret, g_asg, g_if, g_for, g_app, g_set, kk_ok, kS_ok, kQ_nx, kQ_rt, kQ_bk, kQ_ct, kk_ex, kS_ex, kQ_ex, g_raise, e_isi, g_asgT, e_grd, g_try, g_tryAs, g_appT, e_chainN, lkQ_1, lkQ_2, noX_rt, noX_nx, noX_bk, noX_ct, hdQ_0, hdQ_s, tryQ_ex, tryQ_rt, tryQ_nx, tryQ_bk, tryQ_ct, tasQ_ex, tasQ_rt, tasQ_nx, tasQ_bk, tasQ_ct, has_some, sl_0, sl_s, st_0, st_s, v_add, v_sub, v_neg, v_lt, v_le, v_gt, v_ge, v_eqi, v_nei, v_is, v_isNot, v_len, v_lenT, v_abs, v_int, v_item, v_itemT, v_list, v_max, v_min, v_repr, blD_bl, truD_bl, truD_lst, isF_int, isF_bl, isF_non, isF_tup, isF_str, isF_lf, isF_lk, isF_lo, isF_ll, at_0, at_1, at_2, ix_0, ix_1, ix_2, cap_i, cap_t, noL_i, noL_n, noL_b, noL_t, ck_0, ck_s, lk_0, lk_1, lk_2, lk_3, lk_4, ln_0, ln_1, ln_2, ln_3, ln_4, own_o, own_l, own_f, its_o, its_l, its_f, lend_o, lend_i, lend_b, lend_n, lend_s, lend_t, cap_k, cap_f, lend_l, lend_f, sh_o, sh_l, sh_f, sh_k, Bool.or_true, Bool.true_or, Bool.or_false, Bool.false_or, intD, isLst, lstO, List.set_cons_zero, List.set_cons_succ, bind_S, ty_i, ty_b, ty_s, ty_t, ty_l, ty_n, is_ii, is_ib, is_is, is_it, is_il, is_bi, is_bb, is_bs, is_bt, is_bl, is_si, is_sb, is_ss, is_st, is_sl, is_ti, is_tb, is_ts, is_tt, is_tl, is_li, is_lb, is_ls, is_lt, is_ll, is_ni, is_nb, is_ns, is_nt, is_nl, v_eqS, v_neS, v_inS, v_notInS, truD_n, truD_t, cap_s, cap_n, cap_b, noL_s, its_t, own_t, own_s, its_s, sv_n, sv_i, sv_s, sv_b, isStr_s, isNon_n, isNon_i, isNon_s, isNon_t, isNon_l, v_tup, forL_0, kL_nx, kL_ct, kL_bk, kL_rt, kL_ex, tg_n, tg_t, tg_0, tg_s, wp_0, wp_s, bk_0, bk_s, rd_0, rd_s, sb_a, sb_l, si_a, si_l, hd_0, out_t, out_f, argD, ite_self, List.map_cons, List.map_nil, List.append_nil, List.cons_append, List.nil_append, Bool.and_true, Bool.true_and, Bool.not_true, Bool.not_false, Bool.and_false, Bool.false_and, true_and, and_true, decide_eq_true_eq, Bool.false_eq_true, if_false, if_true, ite_true, ite_false, reduceIte, Bool.not_eq_true', Bool.true_eq_false, eq_self]
      rfl
  · have h' : (60 : Int) < (xs.length : Int) := by omega
    have e : goodR xs = false := by unfold goodR; simp [h]
    simp only [ev_checked_spans, e_cst, e_nil, e_yes, e_var, e_fv, e_mv, e_cons, e_dfr, e_op, e_tup, e_lst, e_tr, e_notT, e_andT, e_orT, e_andV, e_orV, e_notV, e_opq, e_if, e_call, e_callM, e_chain, e_src, e_rng, e_lc, g_nx, g_retN, g_brk, g_cnt, g_seq, g_drop, g_ret, g_asg, g_if, g_for, g_app, g_set, kk_ok, kS_ok, kQ_nx, kQ_rt, kQ_bk, kQ_ct, kk_ex, kS_ex, kQ_ex, g_raise, e_isi, g_asgT, e_grd, g_try, g_tryAs, g_appT, e_chainN, lkQ_1, lkQ_2, noX_rt, noX_nx, noX_bk, noX_ct, hdQ_0, hdQ_s, tryQ_ex, tryQ_rt, tryQ_nx, tryQ_bk, tryQ_ct, tasQ_ex, tasQ_rt, tasQ_nx, tasQ_bk, tasQ_ct, has_some, sl_0, sl_s, st_0, st_s, v_add, v_sub, v_neg, v_lt, v_le, v_gt, v_ge, v_eqi, v_nei, v_is, v_isNot, v_len, v_lenT, v_abs, v_int, v_item, v_itemT, v_list, v_max, v_min, v_repr, blD_bl, truD_bl, truD_lst, isF_int, isF_bl, isF_non, isF_tup, isF_str, isF_lf, isF_lk, isF_lo, isF_ll, at_0, at_1, at_2, ix_0, ix_1, ix_2, cap_i, cap_t, noL_i, noL_n, noL_b, noL_t, ck_0, ck_s, lk_0, lk_1, lk_2, lk_3, lk_4, ln_0, ln_1, ln_2, ln_3, ln_4, own_o, own_l, own_f, its_o, its_l, its_f, lend_o, lend_i, lend_b, lend_n, lend_s, lend_t, cap_k, cap_f, lend_l, lend_f, sh_o, sh_l, sh_f, sh_k, Bool.or_true, Bool.true_or, Bool.or_false, Bool.false_or, intD, isLst, lstO, List.set_cons_zero, List.set_cons_succ, bind_S, ty_i, ty_b, ty_s, ty_t, ty_l, ty_n, is_ii, is_ib, is_is, is_it, is_il, is_bi, is_bb, is_bs, is_bt, is_bl, is_si, is_sb, is_ss, is_st, is_sl, is_ti, is_tb, is_ts, is_tt, is_tl, is_li, is_lb, is_ls, is_lt, is_ll, is_ni, is_nb, is_ns, is_nt, is_nl, v_eqS, v_neS, v_inS, v_notInS, truD_n, truD_t, cap_s, cap_n, cap_b, noL_s, its_t, own_t, own_s, its_s, sv_n, sv_i, sv_s, sv_b, isStr_s, isNon_n, isNon_i, isNon_s, isNon_t, isNon_l, v_tup, forL_0, kL_nx, kL_ct, kL_bk, kL_rt, kL_ex, tg_n, tg_t, tg_0, tg_s, wp_0, wp_s, bk_0, bk_s, rd_0, rd_s, sb_a, sb_l, si_a, si_l, hd_0, out_t, out_f, argD, ite_self, List.map_cons, List.map_nil, List.append_nil, List.cons_append, List.nil_append, Bool.and_true, Bool.true_and, Bool.not_true, Bool.not_false, Bool.and_false, Bool.false_and, true_and, and_true, decide_eq_true_eq, Bool.false_eq_true, if_false, if_true, ite_true, ite_false, reduceIte, Bool.not_eq_true', Bool.true_eq_false, eq_self, hd.len, List.length_map, h', e]
    rfl
end K12
namespace K12
open PySem PD SX
/-! reading spans -/
def two' (q : Int × Int) : Row := .two q.1 q.2
theorem enc_two (xs : Sp) : (xs.map two').map enc = xs.map pr := by rw [List.map_map]; rfl
def partP (p : List Nat) : Sum Nat (Int × Int) := match TL.spl [45] 0 [] p with
  | [a, b] => match readL a with
    | none => .inl 1
    | some x => match readL b with
      | none => .inl 1
      | some y => .inr (x, y)
  | _ => .inl 2
def partsP : List (List Nat) → Sum Nat Sp
  | [] => .inr []
  | p :: r => match partP p with
    | .inl c => .inl c
    | .inr q => match partsP r with
      | .inl c => .inl c
      | .inr s => .inr (q :: s)
theorem dash : Str.ofString "-" = S [45] := by decide +kernel
theorem comma : Str.ofString "," = S [44] := by decide +kernel
def stD (l : List Nat) : D := .str (S l)
theorem split_c {c : Nat} (hc : c < 256) {l : List Nat} (hl : l.length ≤ 1000000) : gSplit [.str (S l), .str (S [c])] = some (.lst .o ((TL.spl [c] 0 [] l).map stD)) := by
  show (if ((S [c]).length == 0) = false ∧ (S l).length ≤ 1000000 then some (D.lst .o ((Txt.split (S l) (S [c])).map .str)) else none) = _
  rw [if_pos ⟨rfl, by rw [S_len]; exact hl⟩, split_S (by simp) (by simp [hc]), List.map_map]
  rfl
theorem spl_len {c : Nat} (hc : c < 256) {l p : List Nat} (h : p ∈ TL.spl [c] 0 [] l) : p.length ≤ l.length := by
  have : S p ∈ Txt.split (S l) (S [c]) := by
    rw [split_S (by simp) (by simp [hc])]
    exact List.mem_map.mpr ⟨p, h, rfl⟩
  have := PyProof.Rows.part_short this
  rwa [S_len, S_len] at this
theorem spl_count {c : Nat} (hc : c < 256) (l : List Nat) : (TL.spl [c] 0 [] l).length ≤ l.length + 2 := by
  have := PyProof.Rows.split_le (S l) (S [c])
  rw [split_S (by simp) (by simp [hc]), List.length_map, S_len] at this
  exact this
theorem ne_dash (l : List Nat) : gEq [.str (S l), .str (S [45])] = some (.bl (decide (l = [45]))) := by
  rw [v_eqS]
  congr 2
  rw [Bool.eq_iff_iff, decide_eq_true_eq, decide_eq_true_eq]
  exact ⟨fun h => S_inj h, fun h => by rw [h]⟩
theorem snoc (acc : Sp) (x y : Int) : acc.map pr ++ [D.tup [.int x, .int y]] = (acc ++ [(x, y)]).map pr := by rw [List.map_append]; rfl
theorem isF_st (l : List Nat) : isF (stD l) = true := rfl
theorem at0 {a : D} {r : List D} : gItem [.lst .o (a :: r), .int 0] = if isF a then some a else none := by
  show (L2.atI (a :: r) 0).bind _ = _
  rw [at_0]; rfl
theorem at1 {a b : D} {r : List D} : gItem [.lst .o (a :: b :: r), .int 1] = if isF b then some b else none := by
  show (L2.atI (a :: b :: r) 1).bind _ = _
  rw [at_1]; rfl
/-- two parts, or not two -/
theorem two_or (xs : List (List Nat)) : (∃ a b, xs = [a, b]) ∨ (∀ (f : List Nat → List Nat → Sum Nat (Int × Int)) (z : Sum Nat (Int × Int)), (match xs with | [a, b] => f a b | _ => z) = z) ∧ xs.length ≠ 2 := by
  match xs with
  | [] => exact .inr ⟨fun _ _ => rfl, by simp⟩
  | [_] => exact .inr ⟨fun _ _ => rfl, by simp⟩
  | [a, b] => exact .inl ⟨a, b, rfl⟩
  | _ :: _ :: _ :: _ => exact .inr ⟨fun _ _ => rfl, by simp⟩
theorem lp_parse {s0 : Option D} {K : ES → Prop} : ∀ (ps : List (List Nat)) (acc : Sp) (a b : Option D), (∀ p ∈ ps, p.length ≤ 1000000) → acc.length + ps.length ≤ 900000 →
    (∀ f a b, K (match partsP ps with | .inl c => (.ex ⟨c, []⟩, [s0, f, a, b]) | .inr s => (.nx, [s0, some (spD .o (acc ++ s)), a, b]))) →
    has (evForL (tgName 2) bd_parse_spans_0 (ps.map stD) [s0, some (spD .o acc), a, b]) K
  | [], acc, a, b, hp, hl, h => by
    simp only [e_cst, e_nil, e_yes, e_var, e_fv, e_mv, e_cons, e_dfr, e_op, e_tup, e_lst, e_tr, e_notT, e_andT, e_orT, e_andV, e_orV, e_notV, e_opq, e_if, e_call, e_callM, e_chain, e_src, e_rng, e_lc, g_nx, g_retN, g_brk, g_cnt, g_seq, g_drop, g_ret, g_asg, g_if, g_for, g_app, g_set, kk_ok, kS_ok, kQ_nx, kQ_rt, kQ_bk, kQ_ct, kk_ex, kS_ex, kQ_ex, g_raise, e_isi, g_asgT, e_grd, g_try, g_tryAs, g_appT, e_chainN, lkQ_1, lkQ_2, noX_rt, noX_nx, noX_bk, noX_ct, hdQ_0, hdQ_s, tryQ_ex, tryQ_rt, tryQ_nx, tryQ_bk, tryQ_ct, tasQ_ex, tasQ_rt, tasQ_nx, tasQ_bk, tasQ_ct, has_some, sl_0, sl_s, st_0, st_s, v_add, v_sub, v_neg, v_lt, v_le, v_gt, v_ge, v_eqi, v_nei, v_is, v_isNot, v_len, v_lenT, v_abs, v_int, v_item, v_itemT, v_list, v_max, v_min, v_repr, blD_bl, truD_bl, truD_lst, isF_int, isF_bl, isF_non, isF_tup, isF_str, isF_lf, isF_lk, isF_lo, isF_ll, at_0, at_1, at_2, ix_0, ix_1, ix_2, cap_i, cap_t, noL_i, noL_n, noL_b, noL_t, ck_0, ck_s, lk_0, lk_1, lk_2, lk_3, lk_4, ln_0, ln_1, ln_2, ln_3, ln_4, own_o, own_l, own_f, its_o, its_l, its_f, lend_o, lend_i, lend_b, lend_n, lend_s, lend_t, cap_k, cap_f, lend_l, lend_f, sh_o, sh_l, sh_f, sh_k, Bool.or_true, Bool.true_or, Bool.or_false, Bool.false_or, intD, isLst, lstO, List.set_cons_zero, List.set_cons_succ, bind_S, ty_i, ty_b, ty_s, ty_t, ty_l, ty_n, is_ii, is_ib, is_is, is_it, is_il, is_bi, is_bb, is_bs, is_bt, is_bl, is_si, is_sb, is_ss, is_st, is_sl, is_ti, is_tb, is_ts, is_tt, is_tl, is_li, is_lb, is_ls, is_lt, is_ll, is_ni, is_nb, is_ns, is_nt, is_nl, v_eqS, v_neS, v_inS, v_notInS, truD_n, truD_t, cap_s, cap_n, cap_b, noL_s, its_t, own_t, own_s, its_s, sv_n, sv_i, sv_s, sv_b, isStr_s, isNon_n, isNon_i, isNon_s, isNon_t, isNon_l, v_tup, forL_0, kL_nx, kL_ct, kL_bk, kL_rt, kL_ex, tg_n, tg_t, tg_0, tg_s, wp_0, wp_s, bk_0, bk_s, rd_0, rd_s, sb_a, sb_l, si_a, si_l, hd_0, out_t, out_f, argD, ite_self, List.map_cons, List.map_nil, List.append_nil, List.cons_append, List.nil_append, Bool.and_true, Bool.true_and, Bool.not_true, Bool.not_false, Bool.and_false, Bool.false_and, true_and, and_true, decide_eq_true_eq, Bool.false_eq_true, if_false, if_true, ite_true, ite_false, reduceIte, Bool.not_eq_true', Bool.true_eq_false, eq_self]
    have := h none a b
    simpa [partsP] using this
  | p :: r, acc, a, b, hp, hl, h => by
    simp only [List.length_cons] at hl
    have hl2 : (acc.map pr).length < 1000000 := by rw [List.length_map]; omega
    have lp := hp p List.mem_cons_self
    have es := split_c (c := 45) (by decide) lp
    have lm := fun q (h : q ∈ TL.spl [45] 0 [] p) => Nat.le_trans (spl_len (c := 45) (by decide) h) lp
    rw [List.map_cons, forL_s, tg_n, has_some]
    simp only [st_s, st_0]
    unfold bd_parse_spans_0
    refine step [s0, some (spD .o acc), some (stD p), some (.lst .o ((TL.spl [45] 0 [] p).map stD))] (fun k Q hk => ?_) ?_
    · unfold stD at hk ⊢
      simp only [e_cst, e_nil, e_yes, e_var, e_fv, e_mv, e_cons, e_dfr, e_op, e_tup, e_lst, e_tr, e_notT, e_andT, e_orT, e_andV, e_orV, e_notV, e_opq, e_if, e_call, e_callM, e_chain, e_src, e_rng, e_lc, g_nx, g_retN, g_brk, g_cnt, g_seq, g_drop, g_ret, g_asg, g_if, g_for, g_app, g_set, kk_ok, kS_ok, kQ_nx, kQ_rt, kQ_bk, kQ_ct, kk_ex, kS_ex, kQ_ex, g_raise, e_isi, g_asgT, e_grd, g_try, g_tryAs, g_appT, e_chainN, lkQ_1, lkQ_2, noX_rt, noX_nx, noX_bk, noX_ct, hdQ_0, hdQ_s, tryQ_ex, tryQ_rt, tryQ_nx, tryQ_bk, tryQ_ct, tasQ_ex, tasQ_rt, tasQ_nx, tasQ_bk, tasQ_ct, has_some, sl_0, sl_s, st_0, st_s, v_add, v_sub, v_neg, v_lt, v_le, v_gt, v_ge, v_eqi, v_nei, v_is, v_isNot, v_len, v_lenT, v_abs, v_int, v_item, v_itemT, v_list, v_max, v_min, v_repr, blD_bl, truD_bl, truD_lst, isF_int, isF_bl, isF_non, isF_tup, isF_str, isF_lf, isF_lk, isF_lo, isF_ll, at_0, at_1, at_2, ix_0, ix_1, ix_2, cap_i, cap_t, noL_i, noL_n, noL_b, noL_t, ck_0, ck_s, lk_0, lk_1, lk_2, lk_3, lk_4, ln_0, ln_1, ln_2, ln_3, ln_4, own_o, own_l, own_f, its_o, its_l, its_f, lend_o, lend_i, lend_b, lend_n, lend_s, lend_t, cap_k, cap_f, lend_l, lend_f, sh_o, sh_l, sh_f, sh_k, Bool.or_true, Bool.true_or, Bool.or_false, Bool.false_or, intD, isLst, lstO, List.set_cons_zero, List.set_cons_succ, bind_S, ty_i, ty_b, ty_s, ty_t, ty_l, ty_n, is_ii, is_ib, is_is, is_it, is_il, is_bi, is_bb, is_bs, is_bt, is_bl, is_si, is_sb, is_ss, is_st, is_sl, is_ti, is_tb, is_ts, is_tt, is_tl, is_li, is_lb, is_ls, is_lt, is_ll, is_ni, is_nb, is_ns, is_nt, is_nl, v_eqS, v_neS, v_inS, v_notInS, truD_n, truD_t, cap_s, cap_n, cap_b, noL_s, its_t, own_t, own_s, its_s, sv_n, sv_i, sv_s, sv_b, isStr_s, isNon_n, isNon_i, isNon_s, isNon_t, isNon_l, v_tup, forL_0, kL_nx, kL_ct, kL_bk, kL_rt, kL_ex, tg_n, tg_t, tg_0, tg_s, wp_0, wp_s, bk_0, bk_s, rd_0, rd_s, sb_a, sb_l, si_a, si_l, hd_0, out_t, out_f, argD, ite_self, List.map_cons, List.map_nil, List.append_nil, List.cons_append, List.nil_append, Bool.and_true, Bool.true_and, Bool.not_true, Bool.not_false, Bool.and_false, Bool.false_and, true_and, and_true, decide_eq_true_eq, Bool.false_eq_true, if_false, if_true, ite_true, ite_false, reduceIte, Bool.not_eq_true', Bool.true_eq_false, eq_self, dash, es]
      exact hk
    rcases two_or (TL.spl [45] 0 [] p) with ⟨x, y, exy⟩ | ⟨e, hne⟩
    · rw [exy] at lm ⊢
      have rx := ok_read x (lm x (by simp))
      have ry := ok_read y (lm y (by simp))
      refine step [s0, some (spD .o acc), some (stD p), some (.lst .o ([x, y].map stD))] (fun k Q hk => ?_) ?_
      · simp only [e_cst, e_nil, e_yes, e_var, e_fv, e_mv, e_cons, e_dfr, e_op, e_tup, e_lst, e_tr, e_notT, e_andT, e_orT, e_andV, e_orV, e_notV, e_opq, e_if, e_call, e_callM, e_chain, e_src, e_rng, e_lc, g_nx, g_retN, g_brk, g_cnt, g_seq, g_drop, g_ret, g_asg, g_if, g_for, g_app, g_set, kk_ok, kS_ok, kQ_nx, kQ_rt, kQ_bk, kQ_ct, kk_ex, kS_ex, kQ_ex, g_raise, e_isi, g_asgT, e_grd, g_try, g_tryAs, g_appT, e_chainN, lkQ_1, lkQ_2, noX_rt, noX_nx, noX_bk, noX_ct, hdQ_0, hdQ_s, tryQ_ex, tryQ_rt, tryQ_nx, tryQ_bk, tryQ_ct, tasQ_ex, tasQ_rt, tasQ_nx, tasQ_bk, tasQ_ct, has_some, sl_0, sl_s, st_0, st_s, v_add, v_sub, v_neg, v_lt, v_le, v_gt, v_ge, v_eqi, v_nei, v_is, v_isNot, v_len, v_lenT, v_abs, v_int, v_item, v_itemT, v_list, v_max, v_min, v_repr, blD_bl, truD_bl, truD_lst, isF_int, isF_bl, isF_non, isF_tup, isF_str, isF_lf, isF_lk, isF_lo, isF_ll, at_0, at_1, at_2, ix_0, ix_1, ix_2, cap_i, cap_t, noL_i, noL_n, noL_b, noL_t, ck_0, ck_s, lk_0, lk_1, lk_2, lk_3, lk_4, ln_0, ln_1, ln_2, ln_3, ln_4, own_o, own_l, own_f, its_o, its_l, its_f, lend_o, lend_i, lend_b, lend_n, lend_s, lend_t, cap_k, cap_f, lend_l, lend_f, sh_o, sh_l, sh_f, sh_k, Bool.or_true, Bool.true_or, Bool.or_false, Bool.false_or, intD, isLst, lstO, List.set_cons_zero, List.set_cons_succ, bind_S, ty_i, ty_b, ty_s, ty_t, ty_l, ty_n, is_ii, is_ib, is_is, is_it, is_il, is_bi, is_bb, is_bs, is_bt, is_bl, is_si, is_sb, is_ss, is_st, is_sl, is_ti, is_tb, is_ts, is_tt, is_tl, is_li, is_lb, is_ls, is_lt, is_ll, is_ni, is_nb, is_ns, is_nt, is_nl, v_eqS, v_neS, v_inS, v_notInS, truD_n, truD_t, cap_s, cap_n, cap_b, noL_s, its_t, own_t, own_s, its_s, sv_n, sv_i, sv_s, sv_b, isStr_s, isNon_n, isNon_i, isNon_s, isNon_t, isNon_l, v_tup, forL_0, kL_nx, kL_ct, kL_bk, kL_rt, kL_ex, tg_n, tg_t, tg_0, tg_s, wp_0, wp_s, bk_0, bk_s, rd_0, rd_s, sb_a, sb_l, si_a, si_l, hd_0, out_t, out_f, argD, ite_self, List.map_cons, List.map_nil, List.append_nil, List.cons_append, List.nil_append, Bool.and_true, Bool.true_and, Bool.not_true, Bool.not_false, Bool.and_false, Bool.false_and, true_and, and_true, decide_eq_true_eq, Bool.false_eq_true, if_false, if_true, ite_true, ite_false, reduceIte, Bool.not_eq_true', Bool.true_eq_false, eq_self]
        rw [show decide ((([stD x, stD y].length : Nat) : Int) = 2) = true from rfl]
        simp only [e_cst, e_nil, e_yes, e_var, e_fv, e_mv, e_cons, e_dfr, e_op, e_tup, e_lst, e_tr, e_notT, e_andT, e_orT, e_andV, e_orV, e_notV, e_opq, e_if, e_call, e_callM, e_chain, e_src, e_rng, e_lc, g_nx, g_retN, g_brk, g_cnt, g_seq, g_drop, g_ret, g_asg, g_if, g_for, g_app, g_set, kk_ok, kS_ok, kQ_nx, kQ_rt, kQ_bk, kQ_ct, kk_ex, kS_ex, kQ_ex, g_raise, e_isi, g_asgT, e_grd, g_try, g_tryAs, g_appT, e_chainN, lkQ_1, lkQ_2, noX_rt, noX_nx, noX_bk, noX_ct, hdQ_0, hdQ_s, tryQ_ex, tryQ_rt, tryQ_nx, tryQ_bk, tryQ_ct, tasQ_ex, tasQ_rt, tasQ_nx, tasQ_bk, tasQ_ct, has_some, sl_0, sl_s, st_0, st_s, v_add, v_sub, v_neg, v_lt, v_le, v_gt, v_ge, v_eqi, v_nei, v_is, v_isNot, v_len, v_lenT, v_abs, v_int, v_item, v_itemT, v_list, v_max, v_min, v_repr, blD_bl, truD_bl, truD_lst, isF_int, isF_bl, isF_non, isF_tup, isF_str, isF_lf, isF_lk, isF_lo, isF_ll, at_0, at_1, at_2, ix_0, ix_1, ix_2, cap_i, cap_t, noL_i, noL_n, noL_b, noL_t, ck_0, ck_s, lk_0, lk_1, lk_2, lk_3, lk_4, ln_0, ln_1, ln_2, ln_3, ln_4, own_o, own_l, own_f, its_o, its_l, its_f, lend_o, lend_i, lend_b, lend_n, lend_s, lend_t, cap_k, cap_f, lend_l, lend_f, sh_o, sh_l, sh_f, sh_k, Bool.or_true, Bool.true_or, Bool.or_false, Bool.false_or, intD, isLst, lstO, List.set_cons_zero, List.set_cons_succ, bind_S, ty_i, ty_b, ty_s, ty_t, ty_l, ty_n, is_ii, is_ib, is_is, is_it, is_il, is_bi, is_bb, is_bs, is_bt, is_bl, is_si, is_sb, is_ss, is_st, is_sl, is_ti, is_tb, is_ts, is_tt, is_tl, is_li, is_lb, is_ls, is_lt, is_ll, is_ni, is_nb, is_ns, is_nt, is_nl, v_eqS, v_neS, v_inS, v_notInS, truD_n, truD_t, cap_s, cap_n, cap_b, noL_s, its_t, own_t, own_s, its_s, sv_n, sv_i, sv_s, sv_b, isStr_s, isNon_n, isNon_i, isNon_s, isNon_t, isNon_l, v_tup, forL_0, kL_nx, kL_ct, kL_bk, kL_rt, kL_ex, tg_n, tg_t, tg_0, tg_s, wp_0, wp_s, bk_0, bk_s, rd_0, rd_s, sb_a, sb_l, si_a, si_l, hd_0, out_t, out_f, argD, ite_self, List.map_cons, List.map_nil, List.append_nil, List.cons_append, List.nil_append, Bool.and_true, Bool.true_and, Bool.not_true, Bool.not_false, Bool.and_false, Bool.false_and, true_and, and_true, decide_eq_true_eq, Bool.false_eq_true, if_false, if_true, ite_true, ite_false, reduceIte, Bool.not_eq_true', Bool.true_eq_false, eq_self]
        exact hk
      simp only [partsP, partP, exy] at h
      simp only [e_cst, e_nil, e_yes, e_var, e_fv, e_mv, e_cons, e_dfr, e_op, e_tup, e_lst, e_tr, e_notT, e_andT, e_orT, e_andV, e_orV, e_notV, e_opq, e_if, e_call, e_callM, e_chain, e_src, e_rng, e_lc, g_nx, g_retN, g_brk, g_cnt, g_seq, g_drop, g_ret, g_asg, g_if, g_for, g_app, g_set, kk_ok, kS_ok, kQ_nx, kQ_rt, kQ_bk, kQ_ct, kk_ex, kS_ex, kQ_ex, g_raise, e_isi, g_asgT, e_grd, g_try, g_tryAs, g_appT, e_chainN, lkQ_1, lkQ_2, noX_rt, noX_nx, noX_bk, noX_ct, hdQ_0, hdQ_s, tryQ_ex, tryQ_rt, tryQ_nx, tryQ_bk, tryQ_ct, tasQ_ex, tasQ_rt, tasQ_nx, tasQ_bk, tasQ_ct, has_some, sl_0, sl_s, st_0, st_s, v_add, v_sub, v_neg, v_lt, v_le, v_gt, v_ge, v_eqi, v_nei, v_is, v_isNot, v_len, v_lenT, v_abs, v_int, v_item, v_itemT, v_list, v_max, v_min, v_repr, blD_bl, truD_bl, truD_lst, isF_int, isF_bl, isF_non, isF_tup, isF_str, isF_lf, isF_lk, isF_lo, isF_ll, at_0, at_1, at_2, ix_0, ix_1, ix_2, cap_i, cap_t, noL_i, noL_n, noL_b, noL_t, ck_0, ck_s, lk_0, lk_1, lk_2, lk_3, lk_4, ln_0, ln_1, ln_2, ln_3, ln_4, own_o, own_l, own_f, its_o, its_l, its_f, lend_o, lend_i, lend_b, lend_n, lend_s, lend_t, cap_k, cap_f, lend_l, lend_f, sh_o, sh_l, sh_f, sh_k, Bool.or_true, Bool.true_or, Bool.or_false, Bool.false_or, intD, isLst, lstO, List.set_cons_zero, List.set_cons_succ, bind_S, ty_i, ty_b, ty_s, ty_t, ty_l, ty_n, is_ii, is_ib, is_is, is_it, is_il, is_bi, is_bb, is_bs, is_bt, is_bl, is_si, is_sb, is_ss, is_st, is_sl, is_ti, is_tb, is_ts, is_tt, is_tl, is_li, is_lb, is_ls, is_lt, is_ll, is_ni, is_nb, is_ns, is_nt, is_nl, v_eqS, v_neS, v_inS, v_notInS, truD_n, truD_t, cap_s, cap_n, cap_b, noL_s, its_t, own_t, own_s, its_s, sv_n, sv_i, sv_s, sv_b, isStr_s, isNon_n, isNon_i, isNon_s, isNon_t, isNon_l, v_tup, forL_0, kL_nx, kL_ct, kL_bk, kL_rt, kL_ex, tg_n, tg_t, tg_0, tg_s, wp_0, wp_s, bk_0, bk_s, rd_0, rd_s, sb_a, sb_l, si_a, si_l, hd_0, out_t, out_f, argD, ite_self, List.map_cons, List.map_nil, List.append_nil, List.cons_append, List.nil_append, Bool.and_true, Bool.true_and, Bool.not_true, Bool.not_false, Bool.and_false, Bool.false_and, true_and, and_true, decide_eq_true_eq, Bool.false_eq_true, if_false, if_true, ite_true, ite_false, reduceIte, Bool.not_eq_true', Bool.true_eq_false, eq_self, at0, at1, isF_st]
      rw [show cap (stD x) = .str (S x) from rfl, rx]
      cases h1 : readL x with
      | none =>
        rw [h1] at h
        simp only [e_cst, e_nil, e_yes, e_var, e_fv, e_mv, e_cons, e_dfr, e_op, e_tup, e_lst, e_tr, e_notT, e_andT, e_orT, e_andV, e_orV, e_notV, e_opq, e_if, e_call, e_callM, e_chain, e_src, e_rng, e_lc, g_nx, g_retN, g_brk, g_cnt, g_seq, g_drop, g_ret, g_asg, g_if, g_for, g_app, g_set, kk_ok, kS_ok, kQ_nx, kQ_rt, kQ_bk, kQ_ct, kk_ex, kS_ex, kQ_ex, g_raise, e_isi, g_asgT, e_grd, g_try, g_tryAs, g_appT, e_chainN, lkQ_1, lkQ_2, noX_rt, noX_nx, noX_bk, noX_ct, hdQ_0, hdQ_s, tryQ_ex, tryQ_rt, tryQ_nx, tryQ_bk, tryQ_ct, tasQ_ex, tasQ_rt, tasQ_nx, tasQ_bk, tasQ_ct, has_some, sl_0, sl_s, st_0, st_s, v_add, v_sub, v_neg, v_lt, v_le, v_gt, v_ge, v_eqi, v_nei, v_is, v_isNot, v_len, v_lenT, v_abs, v_int, v_item, v_itemT, v_list, v_max, v_min, v_repr, blD_bl, truD_bl, truD_lst, isF_int, isF_bl, isF_non, isF_tup, isF_str, isF_lf, isF_lk, isF_lo, isF_ll, at_0, at_1, at_2, ix_0, ix_1, ix_2, cap_i, cap_t, noL_i, noL_n, noL_b, noL_t, ck_0, ck_s, lk_0, lk_1, lk_2, lk_3, lk_4, ln_0, ln_1, ln_2, ln_3, ln_4, own_o, own_l, own_f, its_o, its_l, its_f, lend_o, lend_i, lend_b, lend_n, lend_s, lend_t, cap_k, cap_f, lend_l, lend_f, sh_o, sh_l, sh_f, sh_k, Bool.or_true, Bool.true_or, Bool.or_false, Bool.false_or, intD, isLst, lstO, List.set_cons_zero, List.set_cons_succ, bind_S, ty_i, ty_b, ty_s, ty_t, ty_l, ty_n, is_ii, is_ib, is_is, is_it, is_il, is_bi, is_bb, is_bs, is_bt, is_bl, is_si, is_sb, is_ss, is_st, is_sl, is_ti, is_tb, is_ts, is_tt, is_tl, is_li, is_lb, is_ls, is_lt, is_ll, is_ni, is_nb, is_ns, is_nt, is_nl, v_eqS, v_neS, v_inS, v_notInS, truD_n, truD_t, cap_s, cap_n, cap_b, noL_s, its_t, own_t, own_s, its_s, sv_n, sv_i, sv_s, sv_b, isStr_s, isNon_n, isNon_i, isNon_s, isNon_t, isNon_l, v_tup, forL_0, kL_nx, kL_ct, kL_bk, kL_rt, kL_ex, tg_n, tg_t, tg_0, tg_s, wp_0, wp_s, bk_0, bk_s, rd_0, rd_s, sb_a, sb_l, si_a, si_l, hd_0, out_t, out_f, argD, ite_self, List.map_cons, List.map_nil, List.append_nil, List.cons_append, List.nil_append, Bool.and_true, Bool.true_and, Bool.not_true, Bool.not_false, Bool.and_false, Bool.false_and, true_and, and_true, decide_eq_true_eq, Bool.false_eq_true, if_false, if_true, ite_true, ite_false, reduceIte, Bool.not_eq_true', Bool.true_eq_false, eq_self]
        exact h _ _ _
      | some i =>
        rw [h1] at h
        simp only [e_cst, e_nil, e_yes, e_var, e_fv, e_mv, e_cons, e_dfr, e_op, e_tup, e_lst, e_tr, e_notT, e_andT, e_orT, e_andV, e_orV, e_notV, e_opq, e_if, e_call, e_callM, e_chain, e_src, e_rng, e_lc, g_nx, g_retN, g_brk, g_cnt, g_seq, g_drop, g_ret, g_asg, g_if, g_for, g_app, g_set, kk_ok, kS_ok, kQ_nx, kQ_rt, kQ_bk, kQ_ct, kk_ex, kS_ex, kQ_ex, g_raise, e_isi, g_asgT, e_grd, g_try, g_tryAs, g_appT, e_chainN, lkQ_1, lkQ_2, noX_rt, noX_nx, noX_bk, noX_ct, hdQ_0, hdQ_s, tryQ_ex, tryQ_rt, tryQ_nx, tryQ_bk, tryQ_ct, tasQ_ex, tasQ_rt, tasQ_nx, tasQ_bk, tasQ_ct, has_some, sl_0, sl_s, st_0, st_s, v_add, v_sub, v_neg, v_lt, v_le, v_gt, v_ge, v_eqi, v_nei, v_is, v_isNot, v_len, v_lenT, v_abs, v_int, v_item, v_itemT, v_list, v_max, v_min, v_repr, blD_bl, truD_bl, truD_lst, isF_int, isF_bl, isF_non, isF_tup, isF_str, isF_lf, isF_lk, isF_lo, isF_ll, at_0, at_1, at_2, ix_0, ix_1, ix_2, cap_i, cap_t, noL_i, noL_n, noL_b, noL_t, ck_0, ck_s, lk_0, lk_1, lk_2, lk_3, lk_4, ln_0, ln_1, ln_2, ln_3, ln_4, own_o, own_l, own_f, its_o, its_l, its_f, lend_o, lend_i, lend_b, lend_n, lend_s, lend_t, cap_k, cap_f, lend_l, lend_f, sh_o, sh_l, sh_f, sh_k, Bool.or_true, Bool.true_or, Bool.or_false, Bool.false_or, intD, isLst, lstO, List.set_cons_zero, List.set_cons_succ, bind_S, ty_i, ty_b, ty_s, ty_t, ty_l, ty_n, is_ii, is_ib, is_is, is_it, is_il, is_bi, is_bb, is_bs, is_bt, is_bl, is_si, is_sb, is_ss, is_st, is_sl, is_ti, is_tb, is_ts, is_tt, is_tl, is_li, is_lb, is_ls, is_lt, is_ll, is_ni, is_nb, is_ns, is_nt, is_nl, v_eqS, v_neS, v_inS, v_notInS, truD_n, truD_t, cap_s, cap_n, cap_b, noL_s, its_t, own_t, own_s, its_s, sv_n, sv_i, sv_s, sv_b, isStr_s, isNon_n, isNon_i, isNon_s, isNon_t, isNon_l, v_tup, forL_0, kL_nx, kL_ct, kL_bk, kL_rt, kL_ex, tg_n, tg_t, tg_0, tg_s, wp_0, wp_s, bk_0, bk_s, rd_0, rd_s, sb_a, sb_l, si_a, si_l, hd_0, out_t, out_f, argD, ite_self, List.map_cons, List.map_nil, List.append_nil, List.cons_append, List.nil_append, Bool.and_true, Bool.true_and, Bool.not_true, Bool.not_false, Bool.and_false, Bool.false_and, true_and, and_true, decide_eq_true_eq, Bool.false_eq_true, if_false, if_true, ite_true, ite_false, reduceIte, Bool.not_eq_true', Bool.true_eq_false, eq_self, at1, isF_st]
        rw [show cap (stD y) = .str (S y) from rfl, ry]
        cases h2 : readL y with
        | none =>
          rw [h2] at h
          simp only [e_cst, e_nil, e_yes, e_var, e_fv, e_mv, e_cons, e_dfr, e_op, e_tup, e_lst, e_tr, e_notT, e_andT, e_orT, e_andV, e_orV, e_notV, e_opq, e_if, e_call, e_callM, e_chain, e_src, e_rng, e_lc, g_nx, g_retN, g_brk, g_cnt, g_seq, g_drop, g_ret, g_asg, g_if, g_for, g_app, g_set, kk_ok, kS_ok, kQ_nx, kQ_rt, kQ_bk, kQ_ct, kk_ex, kS_ex, kQ_ex, g_raise, e_isi, g_asgT, e_grd, g_try, g_tryAs, g_appT, e_chainN, lkQ_1, lkQ_2, noX_rt, noX_nx, noX_bk, noX_ct, hdQ_0, hdQ_s, tryQ_ex, tryQ_rt, tryQ_nx, tryQ_bk, tryQ_ct, tasQ_ex, tasQ_rt, tasQ_nx, tasQ_bk, tasQ_ct, has_some, sl_0, sl_s, st_0, st_s, v_add, v_sub, v_neg, v_lt, v_le, v_gt, v_ge, v_eqi, v_nei, v_is, v_isNot, v_len, v_lenT, v_abs, v_int, v_item, v_itemT, v_list, v_max, v_min, v_repr, blD_bl, truD_bl, truD_lst, isF_int, isF_bl, isF_non, isF_tup, isF_str, isF_lf, isF_lk, isF_lo, isF_ll, at_0, at_1, at_2, ix_0, ix_1, ix_2, cap_i, cap_t, noL_i, noL_n, noL_b, noL_t, ck_0, ck_s, lk_0, lk_1, lk_2, lk_3, lk_4, ln_0, ln_1, ln_2, ln_3, ln_4, own_o, own_l, own_f, its_o, its_l, its_f, lend_o, lend_i, lend_b, lend_n, lend_s, lend_t, cap_k, cap_f, lend_l, lend_f, sh_o, sh_l, sh_f, sh_k, Bool.or_true, Bool.true_or, Bool.or_false, Bool.false_or, intD, isLst, lstO, List.set_cons_zero, List.set_cons_succ, bind_S, ty_i, ty_b, ty_s, ty_t, ty_l, ty_n, is_ii, is_ib, is_is, is_it, is_il, is_bi, is_bb, is_bs, is_bt, is_bl, is_si, is_sb, is_ss, is_st, is_sl, is_ti, is_tb, is_ts, is_tt, is_tl, is_li, is_lb, is_ls, is_lt, is_ll, is_ni, is_nb, is_ns, is_nt, is_nl, v_eqS, v_neS, v_inS, v_notInS, truD_n, truD_t, cap_s, cap_n, cap_b, noL_s, its_t, own_t, own_s, its_s, sv_n, sv_i, sv_s, sv_b, isStr_s, isNon_n, isNon_i, isNon_s, isNon_t, isNon_l, v_tup, forL_0, kL_nx, kL_ct, kL_bk, kL_rt, kL_ex, tg_n, tg_t, tg_0, tg_s, wp_0, wp_s, bk_0, bk_s, rd_0, rd_s, sb_a, sb_l, si_a, si_l, hd_0, out_t, out_f, argD, ite_self, List.map_cons, List.map_nil, List.append_nil, List.cons_append, List.nil_append, Bool.and_true, Bool.true_and, Bool.not_true, Bool.not_false, Bool.and_false, Bool.false_and, true_and, and_true, decide_eq_true_eq, Bool.false_eq_true, if_false, if_true, ite_true, ite_false, reduceIte, Bool.not_eq_true', Bool.true_eq_false, eq_self]
          exact h _ _ _
        | some j =>
          rw [h2] at h
          simp only [e_cst, e_nil, e_yes, e_var, e_fv, e_mv, e_cons, e_dfr, e_op, e_tup, e_lst, e_tr, e_notT, e_andT, e_orT, e_andV, e_orV, e_notV, e_opq, e_if, e_call, e_callM, e_chain, e_src, e_rng, e_lc, g_nx, g_retN, g_brk, g_cnt, g_seq, g_drop, g_ret, g_asg, g_if, g_for, g_app, g_set, kk_ok, kS_ok, kQ_nx, kQ_rt, kQ_bk, kQ_ct, kk_ex, kS_ex, kQ_ex, g_raise, e_isi, g_asgT, e_grd, g_try, g_tryAs, g_appT, e_chainN, lkQ_1, lkQ_2, noX_rt, noX_nx, noX_bk, noX_ct, hdQ_0, hdQ_s, tryQ_ex, tryQ_rt, tryQ_nx, tryQ_bk, tryQ_ct, tasQ_ex, tasQ_rt, tasQ_nx, tasQ_bk, tasQ_ct, has_some, sl_0, sl_s, st_0, st_s, v_add, v_sub, v_neg, v_lt, v_le, v_gt, v_ge, v_eqi, v_nei, v_is, v_isNot, v_len, v_lenT, v_abs, v_int, v_item, v_itemT, v_list, v_max, v_min, v_repr, blD_bl, truD_bl, truD_lst, isF_int, isF_bl, isF_non, isF_tup, isF_str, isF_lf, isF_lk, isF_lo, isF_ll, at_0, at_1, at_2, ix_0, ix_1, ix_2, cap_i, cap_t, noL_i, noL_n, noL_b, noL_t, ck_0, ck_s, lk_0, lk_1, lk_2, lk_3, lk_4, ln_0, ln_1, ln_2, ln_3, ln_4, own_o, own_l, own_f, its_o, its_l, its_f, lend_o, lend_i, lend_b, lend_n, lend_s, lend_t, cap_k, cap_f, lend_l, lend_f, sh_o, sh_l, sh_f, sh_k, Bool.or_true, Bool.true_or, Bool.or_false, Bool.false_or, intD, isLst, lstO, List.set_cons_zero, List.set_cons_succ, bind_S, ty_i, ty_b, ty_s, ty_t, ty_l, ty_n, is_ii, is_ib, is_is, is_it, is_il, is_bi, is_bb, is_bs, is_bt, is_bl, is_si, is_sb, is_ss, is_st, is_sl, is_ti, is_tb, is_ts, is_tt, is_tl, is_li, is_lb, is_ls, is_lt, is_ll, is_ni, is_nb, is_ns, is_nt, is_nl, v_eqS, v_neS, v_inS, v_notInS, truD_n, truD_t, cap_s, cap_n, cap_b, noL_s, its_t, own_t, own_s, its_s, sv_n, sv_i, sv_s, sv_b, isStr_s, isNon_n, isNon_i, isNon_s, isNon_t, isNon_l, v_tup, forL_0, kL_nx, kL_ct, kL_bk, kL_rt, kL_ex, tg_n, tg_t, tg_0, tg_s, wp_0, wp_s, bk_0, bk_s, rd_0, rd_s, sb_a, sb_l, si_a, si_l, hd_0, out_t, out_f, argD, ite_self, List.map_cons, List.map_nil, List.append_nil, List.cons_append, List.nil_append, Bool.and_true, Bool.true_and, Bool.not_true, Bool.not_false, Bool.and_false, Bool.false_and, true_and, and_true, decide_eq_true_eq, Bool.false_eq_true, if_false, if_true, ite_true, ite_false, reduceIte, Bool.not_eq_true', Bool.true_eq_false, eq_self, hl2]
          rw [snoc]
          refine lp_parse r (acc ++ [(i, j)]) _ _ (fun q hq => hp q (List.mem_cons_of_mem _ hq)) (by simp; omega) fun f a b => ?_
          have := h f a b
          simp only at this
          cases h3 : partsP r with
          | inl c => rw [h3] at this; exact this
          | inr s => rw [h3] at this; simpa using this
    · have e1 : decide (((((TL.spl [45] 0 [] p).map stD).length : Nat) : Int) = 2) = false := by
        rw [List.length_map, decide_eq_false_iff_not]; omega
      have e2 : partP p = .inl 2 := e _ _
      simp only [partsP, e2] at h
      simp only [e_cst, e_nil, e_yes, e_var, e_fv, e_mv, e_cons, e_dfr, e_op, e_tup, e_lst, e_tr, e_notT, e_andT, e_orT, e_andV, e_orV, e_notV, e_opq, e_if, e_call, e_callM, e_chain, e_src, e_rng, e_lc, g_nx, g_retN, g_brk, g_cnt, g_seq, g_drop, g_ret, g_asg, g_if, g_for, g_app, g_set, kk_ok, kS_ok, kQ_nx, kQ_rt, kQ_bk, kQ_ct, kk_ex, kS_ex, kQ_ex, g_raise, e_isi, g_asgT, e_grd, g_try, g_tryAs, g_appT, e_chainN, lkQ_1, lkQ_2, noX_rt, noX_nx, noX_bk, noX_ct, hdQ_0, hdQ_s, tryQ_ex, tryQ_rt, tryQ_nx, tryQ_bk, tryQ_ct, tasQ_ex, tasQ_rt, tasQ_nx, tasQ_bk, tasQ_ct, has_some, sl_0, sl_s, st_0, st_s, v_add, v_sub, v_neg, v_lt, v_le, v_gt, v_ge, v_eqi, v_nei, v_is, v_isNot, v_len, v_lenT, v_abs, v_int, v_item, v_itemT, v_list, v_max, v_min, v_repr, blD_bl, truD_bl, truD_lst, isF_int, isF_bl, isF_non, isF_tup, isF_str, isF_lf, isF_lk, isF_lo, isF_ll, at_0, at_1, at_2, ix_0, ix_1, ix_2, cap_i, cap_t, noL_i, noL_n, noL_b, noL_t, ck_0, ck_s, lk_0, lk_1, lk_2, lk_3, lk_4, ln_0, ln_1, ln_2, ln_3, ln_4, own_o, own_l, own_f, its_o, its_l, its_f, lend_o, lend_i, lend_b, lend_n, lend_s, lend_t, cap_k, cap_f, lend_l, lend_f, sh_o, sh_l, sh_f, sh_k, Bool.or_true, Bool.true_or, Bool.or_false, Bool.false_or, intD, isLst, lstO, List.set_cons_zero, List.set_cons_succ, bind_S, ty_i, ty_b, ty_s, ty_t, ty_l, ty_n, is_ii, is_ib, is_is, is_it, is_il, is_bi, is_bb, is_bs, is_bt, is_bl, is_si, is_sb, is_ss, is_st, is_sl, is_ti, is_tb, is_ts, is_tt, is_tl, is_li, is_lb, is_ls, is_lt, is_ll, is_ni, is_nb, is_ns, is_nt, is_nl, v_eqS, v_neS, v_inS, v_notInS, truD_n, truD_t, cap_s, cap_n, cap_b, noL_s, its_t, own_t, own_s, its_s, sv_n, sv_i, sv_s, sv_b, isStr_s, isNon_n, isNon_i, isNon_s, isNon_t, isNon_l, v_tup, forL_0, kL_nx, kL_ct, kL_bk, kL_rt, kL_ex, tg_n, tg_t, tg_0, tg_s, wp_0, wp_s, bk_0, bk_s, rd_0, rd_s, sb_a, sb_l, si_a, si_l, hd_0, out_t, out_f, argD, ite_self, List.map_cons, List.map_nil, List.append_nil, List.cons_append, List.nil_append, Bool.and_true, Bool.true_and, Bool.not_true, Bool.not_false, Bool.and_false, Bool.false_and, true_and, and_true, decide_eq_true_eq, Bool.false_eq_true, if_false, if_true, ite_true, ite_false, reduceIte, Bool.not_eq_true', Bool.true_eq_false, eq_self, e1]
      exact h _ _ _
theorem ok_parse (w : List Nat) (hw : w.length ≤ 10000) : F_parse_spans [.str (S w)] = some (if w = [45] then .ok (.lst .o []) else match partsP (TL.spl [44] 0 [] w) with
    | .inl c => .ex ⟨c, []⟩
    | .inr s => if goodR (s.map two') = true then .ok (spD .o s) else .ex ⟨2, []⟩, [none]) := by
  unfold F_parse_spans
  refine fn_go rfl ?_
  show Go ev_parse_spans [some (.str (S w)), none, none, none] _
  unfold ev_parse_spans
  by_cases h : w = [45]
  · rw [if_pos h]
    have := ne_dash w
    simp only [h, decide_true] at this
    simp only [e_cst, e_nil, e_yes, e_var, e_fv, e_mv, e_cons, e_dfr, e_op, e_tup, e_lst, e_tr, e_notT, e_andT, e_orT, e_andV, e_orV, e_notV, e_opq, e_if, e_call, e_callM, e_chain, e_src, e_rng, e_lc, g_nx, g_retN, g_brk, g_cnt, g_seq, g_drop, g_ret, g_asg, g_if, g_for, g_app, g_set, kk_ok, kS_ok, kQ_nx, kQ_rt, kQ_bk, kQ_ct, kk_ex, kS_ex, kQ_ex, g_raise, e_isi, g_asgT, e_grd, g_try, g_tryAs, g_appT, e_chainN, lkQ_1, lkQ_2, noX_rt, noX_nx, noX_bk, noX_ct, hdQ_0, hdQ_s, tryQ_ex, tryQ_rt, tryQ_nx, tryQ_bk, tryQ_ct, tasQ_ex, tasQ_rt, tasQ_nx, tasQ_bk, tasQ_ct, has_some, sl_0, sl_s, st_0, st_s, v_add, v_sub, v_neg, v_lt, v_le, v_gt, v_ge, v_eqi, v_nei, v_is, v_isNot, v_len, v_lenT, v_abs, v_int, v_item, v_itemT, v_list, v_max, v_min, v_repr, blD_bl, truD_bl, truD_lst, isF_int, isF_bl, isF_non, isF_tup, isF_str, isF_lf, isF_lk, isF_lo, isF_ll, at_0, at_1, at_2, ix_0, ix_1, ix_2, cap_i, cap_t, noL_i, noL_n, noL_b, noL_t, ck_0, ck_s, lk_0, lk_1, lk_2, lk_3, lk_4, ln_0, ln_1, ln_2, ln_3, ln_4, own_o, own_l, own_f, its_o, its_l, its_f, lend_o, lend_i, lend_b, lend_n, lend_s, lend_t, cap_k, cap_f, lend_l, lend_f, sh_o, sh_l, sh_f, sh_k, Bool.or_true, Bool.true_or, Bool.or_false, Bool.false_or, intD, isLst, lstO, List.set_cons_zero, List.set_cons_succ, bind_S, ty_i, ty_b, ty_s, ty_t, ty_l, ty_n, is_ii, is_ib, is_is, is_it, is_il, is_bi, is_bb, is_bs, is_bt, is_bl, is_si, is_sb, is_ss, is_st, is_sl, is_ti, is_tb, is_ts, is_tt, is_tl, is_li, is_lb, is_ls, is_lt, is_ll, is_ni, is_nb, is_ns, is_nt, is_nl, v_eqS, v_neS, v_inS, v_notInS, truD_n, truD_t, cap_s, cap_n, cap_b, noL_s, its_t, own_t, own_s, its_s, sv_n, sv_i, sv_s, sv_b, isStr_s, isNon_n, isNon_i, isNon_s, isNon_t, isNon_l, v_tup, forL_0, kL_nx, kL_ct, kL_bk, kL_rt, kL_ex, tg_n, tg_t, tg_0, tg_s, wp_0, wp_s, bk_0, bk_s, rd_0, rd_s, sb_a, sb_l, si_a, si_l, hd_0, out_t, out_f, argD, ite_self, List.map_cons, List.map_nil, List.append_nil, List.cons_append, List.nil_append, Bool.and_true, Bool.true_and, Bool.not_true, Bool.not_false, Bool.and_false, Bool.false_and, true_and, and_true, decide_eq_true_eq, Bool.false_eq_true, if_false, if_true, ite_true, ite_false, reduceIte, Bool.not_eq_true', Bool.true_eq_false, eq_self, dash, h, this]
    rfl
  · rw [if_neg h]
    have e := ne_dash w
    simp only [h, decide_false] at e
    have es := split_c (c := 44) (by decide) (l := w) (by omega)
    have sc := spl_count (c := 44) (by decide) w
    simp only [e_cst, e_nil, e_yes, e_var, e_fv, e_mv, e_cons, e_dfr, e_op, e_tup, e_lst, e_tr, e_notT, e_andT, e_orT, e_andV, e_orV, e_notV, e_opq, e_if, e_call, e_callM, e_chain, e_src, e_rng, e_lc, g_nx, g_retN, g_brk, g_cnt, g_seq, g_drop, g_ret, g_asg, g_if, g_for, g_app, g_set, kk_ok, kS_ok, kQ_nx, kQ_rt, kQ_bk, kQ_ct, kk_ex, kS_ex, kQ_ex, g_raise, e_isi, g_asgT, e_grd, g_try, g_tryAs, g_appT, e_chainN, lkQ_1, lkQ_2, noX_rt, noX_nx, noX_bk, noX_ct, hdQ_0, hdQ_s, tryQ_ex, tryQ_rt, tryQ_nx, tryQ_bk, tryQ_ct, tasQ_ex, tasQ_rt, tasQ_nx, tasQ_bk, tasQ_ct, has_some, sl_0, sl_s, st_0, st_s, v_add, v_sub, v_neg, v_lt, v_le, v_gt, v_ge, v_eqi, v_nei, v_is, v_isNot, v_len, v_lenT, v_abs, v_int, v_item, v_itemT, v_list, v_max, v_min, v_repr, blD_bl, truD_bl, truD_lst, isF_int, isF_bl, isF_non, isF_tup, isF_str, isF_lf, isF_lk, isF_lo, isF_ll, at_0, at_1, at_2, ix_0, ix_1, ix_2, cap_i, cap_t, noL_i, noL_n, noL_b, noL_t, ck_0, ck_s, lk_0, lk_1, lk_2, lk_3, lk_4, ln_0, ln_1, ln_2, ln_3, ln_4, own_o, own_l, own_f, its_o, its_l, its_f, lend_o, lend_i, lend_b, lend_n, lend_s, lend_t, cap_k, cap_f, lend_l, lend_f, sh_o, sh_l, sh_f, sh_k, Bool.or_true, Bool.true_or, Bool.or_false, Bool.false_or, intD, isLst, lstO, List.set_cons_zero, List.set_cons_succ, bind_S, ty_i, ty_b, ty_s, ty_t, ty_l, ty_n, is_ii, is_ib, is_is, is_it, is_il, is_bi, is_bb, is_bs, is_bt, is_bl, is_si, is_sb, is_ss, is_st, is_sl, is_ti, is_tb, is_ts, is_tt, is_tl, is_li, is_lb, is_ls, is_lt, is_ll, is_ni, is_nb, is_ns, is_nt, is_nl, v_eqS, v_neS, v_inS, v_notInS, truD_n, truD_t, cap_s, cap_n, cap_b, noL_s, its_t, own_t, own_s, its_s, sv_n, sv_i, sv_s, sv_b, isStr_s, isNon_n, isNon_i, isNon_s, isNon_t, isNon_l, v_tup, forL_0, kL_nx, kL_ct, kL_bk, kL_rt, kL_ex, tg_n, tg_t, tg_0, tg_s, wp_0, wp_s, bk_0, bk_s, rd_0, rd_s, sb_a, sb_l, si_a, si_l, hd_0, out_t, out_f, argD, ite_self, List.map_cons, List.map_nil, List.append_nil, List.cons_append, List.nil_append, Bool.and_true, Bool.true_and, Bool.not_true, Bool.not_false, Bool.and_false, Bool.false_and, true_and, and_true, decide_eq_true_eq, Bool.false_eq_true, if_false, if_true, ite_true, ite_false, reduceIte, Bool.not_eq_true', Bool.true_eq_false, eq_self, dash, comma, e, es]
    refine lp_parse (TL.spl [44] 0 [] w) [] none none (fun p hp => Nat.le_trans (spl_len (c := 44) (by decide) hp) (by omega)) (by simp; omega) fun f a b => ?_
    have lp : ∀ {ps s}, partsP ps = .inr s → s.length ≤ ps.length := by
      intro ps
      induction ps with
      | nil => intro s h; cases h; exact Nat.le_refl _
      | cons p r ih =>
        intro s h
        rw [partsP] at h
        cases h1 : partP p with
        | inl c => rw [h1] at h; cases h
        | inr q =>
          rw [h1] at h
          cases h2 : partsP r with
          | inl c => rw [h2] at h; cases h
          | inr t =>
            rw [h2] at h
            cases h
            have := ih h2
            simp; omega
    cases h3 : partsP (TL.spl [44] 0 [] w) with
    | inl c => simp only [e_cst, e_nil, e_yes, e_var, e_fv, e_mv, e_cons, e_dfr, e_op, e_tup, e_lst, e_tr, e_notT, e_andT, e_orT, e_andV, e_orV, e_notV, e_opq, e_if, e_call, e_callM, e_chain, e_src, e_rng, e_lc, g_nx, g_retN, g_brk, g_cnt, g_seq, g_drop, g_ret, g_asg, g_if, g_for, g_app, g_set, kk_ok, kS_ok, kQ_nx, kQ_rt, kQ_bk, kQ_ct, kk_ex, kS_ex, kQ_ex, g_raise, e_isi, g_asgT, e_grd, g_try, g_tryAs, g_appT, e_chainN, lkQ_1, lkQ_2, noX_rt, noX_nx, noX_bk, noX_ct, hdQ_0, hdQ_s, tryQ_ex, tryQ_rt, tryQ_nx, tryQ_bk, tryQ_ct, tasQ_ex, tasQ_rt, tasQ_nx, tasQ_bk, tasQ_ct, has_some, sl_0, sl_s, st_0, st_s, v_add, v_sub, v_neg, v_lt, v_le, v_gt, v_ge, v_eqi, v_nei, v_is, v_isNot, v_len, v_lenT, v_abs, v_int, v_item, v_itemT, v_list, v_max, v_min, v_repr, blD_bl, truD_bl, truD_lst, isF_int, isF_bl, isF_non, isF_tup, isF_str, isF_lf, isF_lk, isF_lo, isF_ll, at_0, at_1, at_2, ix_0, ix_1, ix_2, cap_i, cap_t, noL_i, noL_n, noL_b, noL_t, ck_0, ck_s, lk_0, lk_1, lk_2, lk_3, lk_4, ln_0, ln_1, ln_2, ln_3, ln_4, own_o, own_l, own_f, its_o, its_l, its_f, lend_o, lend_i, lend_b, lend_n, lend_s, lend_t, cap_k, cap_f, lend_l, lend_f, sh_o, sh_l, sh_f, sh_k, Bool.or_true, Bool.true_or, Bool.or_false, Bool.false_or, intD, isLst, lstO, List.set_cons_zero, List.set_cons_succ, bind_S, ty_i, ty_b, ty_s, ty_t, ty_l, ty_n, is_ii, is_ib, is_is, is_it, is_il, is_bi, is_bb, is_bs, is_bt, is_bl, is_si, is_sb, is_ss, is_st, is_sl, is_ti, is_tb, is_ts, is_tt, is_tl, is_li, is_lb, is_ls, is_lt, is_ll, is_ni, is_nb, is_ns, is_nt, is_nl, v_eqS, v_neS, v_inS, v_notInS, truD_n, truD_t, cap_s, cap_n, cap_b, noL_s, its_t, own_t, own_s, its_s, sv_n, sv_i, sv_s, sv_b, isStr_s, isNon_n, isNon_i, isNon_s, isNon_t, isNon_l, v_tup, forL_0, kL_nx, kL_ct, kL_bk, kL_rt, kL_ex, tg_n, tg_t, tg_0, tg_s, wp_0, wp_s, bk_0, bk_s, rd_0, rd_s, sb_a, sb_l, si_a, si_l, hd_0, out_t, out_f, argD, ite_self, List.map_cons, List.map_nil, List.append_nil, List.cons_append, List.nil_append, Bool.and_true, Bool.true_and, Bool.not_true, Bool.not_false, Bool.and_false, Bool.false_and, true_and, and_true, decide_eq_true_eq, Bool.false_eq_true, if_false, if_true, ite_true, ite_false, reduceIte, Bool.not_eq_true', Bool.true_eq_false, eq_self]; rfl
    | inr s =>
      have ls := lp h3
      have ec := ok_checked (d := .lst .l (s.map pr)) (xs := s.map two') (by rw [enc_two]; exact Sq.l) (by rw [List.length_map]; omega)
      by_cases hg : goodR (s.map two') = true
      · simp only [e_cst, e_nil, e_yes, e_var, e_fv, e_mv, e_cons, e_dfr, e_op, e_tup, e_lst, e_tr, e_notT, e_andT, e_orT, e_andV, e_orV, e_notV, e_opq, e_if, e_call, e_callM, e_chain, e_src, e_rng, e_lc, g_nx, g_retN, g_brk, g_cnt, g_seq, g_drop, g_ret, g_asg, g_if, g_for, g_app, g_set, kk_ok, kS_ok, kQ_nx, kQ_rt, kQ_bk, kQ_ct, kk_ex, kS_ex, kQ_ex, g_raise, e_isi, g_asgT, e_grd, g_try, g_tryAs, g_appT, e_chainN, lkQ_1, lkQ_2, noX_rt, noX_nx, noX_bk, noX_ct, hdQ_0, hdQ_s, tryQ_ex, tryQ_rt, tryQ_nx, tryQ_bk, tryQ_ct, tasQ_ex, tasQ_rt, tasQ_nx, tasQ_bk, tasQ_ct, has_some, sl_0, sl_s, st_0, st_s, v_add, v_sub, v_neg, v_lt, v_le, v_gt, v_ge, v_eqi, v_nei, v_is, v_isNot, v_len, v_lenT, v_abs, v_int, v_item, v_itemT, v_list, v_max, v_min, v_repr, blD_bl, truD_bl, truD_lst, isF_int, isF_bl, isF_non, isF_tup, isF_str, isF_lf, isF_lk, isF_lo, isF_ll, at_0, at_1, at_2, ix_0, ix_1, ix_2, cap_i, cap_t, noL_i, noL_n, noL_b, noL_t, ck_0, ck_s, lk_0, lk_1, lk_2, lk_3, lk_4, ln_0, ln_1, ln_2, ln_3, ln_4, own_o, own_l, own_f, its_o, its_l, its_f, lend_o, lend_i, lend_b, lend_n, lend_s, lend_t, cap_k, cap_f, lend_l, lend_f, sh_o, sh_l, sh_f, sh_k, Bool.or_true, Bool.true_or, Bool.or_false, Bool.false_or, intD, isLst, lstO, List.set_cons_zero, List.set_cons_succ, bind_S, ty_i, ty_b, ty_s, ty_t, ty_l, ty_n, is_ii, is_ib, is_is, is_it, is_il, is_bi, is_bb, is_bs, is_bt, is_bl, is_si, is_sb, is_ss, is_st, is_sl, is_ti, is_tb, is_ts, is_tt, is_tl, is_li, is_lb, is_ls, is_lt, is_ll, is_ni, is_nb, is_ns, is_nt, is_nl, v_eqS, v_neS, v_inS, v_notInS, truD_n, truD_t, cap_s, cap_n, cap_b, noL_s, its_t, own_t, own_s, its_s, sv_n, sv_i, sv_s, sv_b, isStr_s, isNon_n, isNon_i, isNon_s, isNon_t, isNon_l, v_tup, forL_0, kL_nx, kL_ct, kL_bk, kL_rt, kL_ex, tg_n, tg_t, tg_0, tg_s, wp_0, wp_s, bk_0, bk_s, rd_0, rd_s, sb_a, sb_l, si_a, si_l, hd_0, out_t, out_f, argD, ite_self, List.map_cons, List.map_nil, List.append_nil, List.cons_append, List.nil_append, Bool.and_true, Bool.true_and, Bool.not_true, Bool.not_false, Bool.and_false, Bool.false_and, true_and, and_true, decide_eq_true_eq, Bool.false_eq_true, if_false, if_true, ite_true, ite_false, reduceIte, Bool.not_eq_true', Bool.true_eq_false, eq_self, ec, hg]
        unfold rwD
        rw [enc_two]
        rfl
      · simp only [e_cst, e_nil, e_yes, e_var, e_fv, e_mv, e_cons, e_dfr, e_op, e_tup, e_lst, e_tr, e_notT, e_andT, e_orT, e_andV, e_orV, e_notV, e_opq, e_if, e_call, e_callM, e_chain, e_src, e_rng, e_lc, g_nx, g_retN, g_brk, g_cnt, g_seq, g_drop, g_ret, g_asg, g_if, g_for, g_app, g_set, kk_ok, kS_ok, kQ_nx, kQ_rt, kQ_bk, kQ_ct, kk_ex, kS_ex, kQ_ex, g_raise, e_isi, g_asgT, e_grd, g_try, g_tryAs, g_appT, e_chainN, lkQ_1, lkQ_2, noX_rt, noX_nx, noX_bk, noX_ct, hdQ_0, hdQ_s, tryQ_ex, tryQ_rt, tryQ_nx, tryQ_bk, tryQ_ct, tasQ_ex, tasQ_rt, tasQ_nx, tasQ_bk, tasQ_ct, has_some, sl_0, sl_s, st_0, st_s, v_add, v_sub, v_neg, v_lt, v_le, v_gt, v_ge, v_eqi, v_nei, v_is, v_isNot, v_len, v_lenT, v_abs, v_int, v_item, v_itemT, v_list, v_max, v_min, v_repr, blD_bl, truD_bl, truD_lst, isF_int, isF_bl, isF_non, isF_tup, isF_str, isF_lf, isF_lk, isF_lo, isF_ll, at_0, at_1, at_2, ix_0, ix_1, ix_2, cap_i, cap_t, noL_i, noL_n, noL_b, noL_t, ck_0, ck_s, lk_0, lk_1, lk_2, lk_3, lk_4, ln_0, ln_1, ln_2, ln_3, ln_4, own_o, own_l, own_f, its_o, its_l, its_f, lend_o, lend_i, lend_b, lend_n, lend_s, lend_t, cap_k, cap_f, lend_l, lend_f, sh_o, sh_l, sh_f, sh_k, Bool.or_true, Bool.true_or, Bool.or_false, Bool.false_or, intD, isLst, lstO, List.set_cons_zero, List.set_cons_succ, bind_S, ty_i, ty_b, ty_s, ty_t, ty_l, ty_n, is_ii, is_ib, is_is, is_it, is_il, is_bi, is_bb, is_bs, is_bt, is_bl, is_si, is_sb, is_ss, is_st, is_sl, is_ti, is_tb, is_ts, is_tt, is_tl, is_li, is_lb, is_ls, is_lt, is_ll, is_ni, is_nb, is_ns, is_nt, is_nl, v_eqS, v_neS, v_inS, v_notInS, truD_n, truD_t, cap_s, cap_n, cap_b, noL_s, its_t, own_t, own_s, its_s, sv_n, sv_i, sv_s, sv_b, isStr_s, isNon_n, isNon_i, isNon_s, isNon_t, isNon_l, v_tup, forL_0, kL_nx, kL_ct, kL_bk, kL_rt, kL_ex, tg_n, tg_t, tg_0, tg_s, wp_0, wp_s, bk_0, bk_s, rd_0, rd_s, sb_a, sb_l, si_a, si_l, hd_0, out_t, out_f, argD, ite_self, List.map_cons, List.map_nil, List.append_nil, List.cons_append, List.nil_append, Bool.and_true, Bool.true_and, Bool.not_true, Bool.not_false, Bool.and_false, Bool.false_and, true_and, and_true, decide_eq_true_eq, Bool.false_eq_true, if_false, if_true, ite_true, ite_false, reduceIte, Bool.not_eq_true', Bool.true_eq_false, eq_self, ec, Bool.eq_false_iff.mpr hg]
        rfl
def dueD (m : Fl) (w : List Nat) : D := if w = [45] then .lst .o [] else match partsP (TL.spl [44] 0 [] w) with
  | .inl c => .str (Str.ofString (if c = 1 then "number" else "span"))
  | .inr s => if goodR (s.map two') = true then spD m s else .str (Str.ofString "span")
theorem lp_due {s0 : Option D} {K : ES → Prop} : ∀ (ps : List (List Nat)) (acc : Sp) (a b : Option D), (∀ p ∈ ps, p.length ≤ 1000000) → acc.length + ps.length ≤ 900000 →
    (∀ f a b, K (match partsP ps with | .inl c => (.rt (.str (Str.ofString (if c = 1 then "number" else "span"))), [s0, f, a, b]) | .inr s => (.nx, [s0, some (spD .o (acc ++ s)), a, b]))) →
    has (evForL (tgName 2) bd__law_due_0 (ps.map stD) [s0, some (spD .o acc), a, b]) K
  | [], acc, a, b, hp, hl, h => by
    simp only [e_cst, e_nil, e_yes, e_var, e_fv, e_mv, e_cons, e_dfr, e_op, e_tup, e_lst, e_tr, e_notT, e_andT, e_orT, e_andV, e_orV, e_notV, e_opq, e_if, e_call, e_callM, e_chain, e_src, e_rng, e_lc, g_nx, g_retN, g_brk, g_cnt, g_seq, g_drop, g_ret, g_asg, g_if, g_for, g_app, g_set, kk_ok, kS_ok, kQ_nx, kQ_rt, kQ_bk, kQ_ct, kk_ex, kS_ex, kQ_ex, g_raise, e_isi, g_asgT, e_grd, g_try, g_tryAs, g_appT, e_chainN, lkQ_1, lkQ_2, noX_rt, noX_nx, noX_bk, noX_ct, hdQ_0, hdQ_s, tryQ_ex, tryQ_rt, tryQ_nx, tryQ_bk, tryQ_ct, tasQ_ex, tasQ_rt, tasQ_nx, tasQ_bk, tasQ_ct, has_some, sl_0, sl_s, st_0, st_s, v_add, v_sub, v_neg, v_lt, v_le, v_gt, v_ge, v_eqi, v_nei, v_is, v_isNot, v_len, v_lenT, v_abs, v_int, v_item, v_itemT, v_list, v_max, v_min, v_repr, blD_bl, truD_bl, truD_lst, isF_int, isF_bl, isF_non, isF_tup, isF_str, isF_lf, isF_lk, isF_lo, isF_ll, at_0, at_1, at_2, ix_0, ix_1, ix_2, cap_i, cap_t, noL_i, noL_n, noL_b, noL_t, ck_0, ck_s, lk_0, lk_1, lk_2, lk_3, lk_4, ln_0, ln_1, ln_2, ln_3, ln_4, own_o, own_l, own_f, its_o, its_l, its_f, lend_o, lend_i, lend_b, lend_n, lend_s, lend_t, cap_k, cap_f, lend_l, lend_f, sh_o, sh_l, sh_f, sh_k, Bool.or_true, Bool.true_or, Bool.or_false, Bool.false_or, intD, isLst, lstO, List.set_cons_zero, List.set_cons_succ, bind_S, ty_i, ty_b, ty_s, ty_t, ty_l, ty_n, is_ii, is_ib, is_is, is_it, is_il, is_bi, is_bb, is_bs, is_bt, is_bl, is_si, is_sb, is_ss, is_st, is_sl, is_ti, is_tb, is_ts, is_tt, is_tl, is_li, is_lb, is_ls, is_lt, is_ll, is_ni, is_nb, is_ns, is_nt, is_nl, v_eqS, v_neS, v_inS, v_notInS, truD_n, truD_t, cap_s, cap_n, cap_b, noL_s, its_t, own_t, own_s, its_s, sv_n, sv_i, sv_s, sv_b, isStr_s, isNon_n, isNon_i, isNon_s, isNon_t, isNon_l, v_tup, forL_0, kL_nx, kL_ct, kL_bk, kL_rt, kL_ex, tg_n, tg_t, tg_0, tg_s, wp_0, wp_s, bk_0, bk_s, rd_0, rd_s, sb_a, sb_l, si_a, si_l, hd_0, out_t, out_f, argD, ite_self, List.map_cons, List.map_nil, List.append_nil, List.cons_append, List.nil_append, Bool.and_true, Bool.true_and, Bool.not_true, Bool.not_false, Bool.and_false, Bool.false_and, true_and, and_true, decide_eq_true_eq, Bool.false_eq_true, if_false, if_true, ite_true, ite_false, reduceIte, Bool.not_eq_true', Bool.true_eq_false, eq_self]
    have := h none a b
    simpa [partsP] using this
  | p :: r, acc, a, b, hp, hl, h => by
    simp only [List.length_cons] at hl
    have hl2 : (acc.map pr).length < 1000000 := by rw [List.length_map]; omega
    have lp := hp p List.mem_cons_self
    have es := split_c (c := 45) (by decide) lp
    have lm := fun q (h : q ∈ TL.spl [45] 0 [] p) => Nat.le_trans (spl_len (c := 45) (by decide) h) lp
    rw [List.map_cons, forL_s, tg_n, has_some]
    simp only [st_s, st_0]
    unfold bd__law_due_0
    refine step [s0, some (spD .o acc), some (stD p), some (.lst .o ((TL.spl [45] 0 [] p).map stD))] (fun k Q hk => ?_) ?_
    · unfold stD at hk ⊢
      simp only [e_cst, e_nil, e_yes, e_var, e_fv, e_mv, e_cons, e_dfr, e_op, e_tup, e_lst, e_tr, e_notT, e_andT, e_orT, e_andV, e_orV, e_notV, e_opq, e_if, e_call, e_callM, e_chain, e_src, e_rng, e_lc, g_nx, g_retN, g_brk, g_cnt, g_seq, g_drop, g_ret, g_asg, g_if, g_for, g_app, g_set, kk_ok, kS_ok, kQ_nx, kQ_rt, kQ_bk, kQ_ct, kk_ex, kS_ex, kQ_ex, g_raise, e_isi, g_asgT, e_grd, g_try, g_tryAs, g_appT, e_chainN, lkQ_1, lkQ_2, noX_rt, noX_nx, noX_bk, noX_ct, hdQ_0, hdQ_s, tryQ_ex, tryQ_rt, tryQ_nx, tryQ_bk, tryQ_ct, tasQ_ex, tasQ_rt, tasQ_nx, tasQ_bk, tasQ_ct, has_some, sl_0, sl_s, st_0, st_s, v_add, v_sub, v_neg, v_lt, v_le, v_gt, v_ge, v_eqi, v_nei, v_is, v_isNot, v_len, v_lenT, v_abs, v_int, v_item, v_itemT, v_list, v_max, v_min, v_repr, blD_bl, truD_bl, truD_lst, isF_int, isF_bl, isF_non, isF_tup, isF_str, isF_lf, isF_lk, isF_lo, isF_ll, at_0, at_1, at_2, ix_0, ix_1, ix_2, cap_i, cap_t, noL_i, noL_n, noL_b, noL_t, ck_0, ck_s, lk_0, lk_1, lk_2, lk_3, lk_4, ln_0, ln_1, ln_2, ln_3, ln_4, own_o, own_l, own_f, its_o, its_l, its_f, lend_o, lend_i, lend_b, lend_n, lend_s, lend_t, cap_k, cap_f, lend_l, lend_f, sh_o, sh_l, sh_f, sh_k, Bool.or_true, Bool.true_or, Bool.or_false, Bool.false_or, intD, isLst, lstO, List.set_cons_zero, List.set_cons_succ, bind_S, ty_i, ty_b, ty_s, ty_t, ty_l, ty_n, is_ii, is_ib, is_is, is_it, is_il, is_bi, is_bb, is_bs, is_bt, is_bl, is_si, is_sb, is_ss, is_st, is_sl, is_ti, is_tb, is_ts, is_tt, is_tl, is_li, is_lb, is_ls, is_lt, is_ll, is_ni, is_nb, is_ns, is_nt, is_nl, v_eqS, v_neS, v_inS, v_notInS, truD_n, truD_t, cap_s, cap_n, cap_b, noL_s, its_t, own_t, own_s, its_s, sv_n, sv_i, sv_s, sv_b, isStr_s, isNon_n, isNon_i, isNon_s, isNon_t, isNon_l, v_tup, forL_0, kL_nx, kL_ct, kL_bk, kL_rt, kL_ex, tg_n, tg_t, tg_0, tg_s, wp_0, wp_s, bk_0, bk_s, rd_0, rd_s, sb_a, sb_l, si_a, si_l, hd_0, out_t, out_f, argD, ite_self, List.map_cons, List.map_nil, List.append_nil, List.cons_append, List.nil_append, Bool.and_true, Bool.true_and, Bool.not_true, Bool.not_false, Bool.and_false, Bool.false_and, true_and, and_true, decide_eq_true_eq, Bool.false_eq_true, if_false, if_true, ite_true, ite_false, reduceIte, Bool.not_eq_true', Bool.true_eq_false, eq_self, dash, es]
      exact hk
    rcases two_or (TL.spl [45] 0 [] p) with ⟨x, y, exy⟩ | ⟨e, hne⟩
    · rw [exy] at lm ⊢
      have rx := ok_number x (lm x (by simp))
      have ry := ok_number y (lm y (by simp))
      refine step [s0, some (spD .o acc), some (stD p), some (.lst .o ([x, y].map stD))] (fun k Q hk => ?_) ?_
      · simp only [e_cst, e_nil, e_yes, e_var, e_fv, e_mv, e_cons, e_dfr, e_op, e_tup, e_lst, e_tr, e_notT, e_andT, e_orT, e_andV, e_orV, e_notV, e_opq, e_if, e_call, e_callM, e_chain, e_src, e_rng, e_lc, g_nx, g_retN, g_brk, g_cnt, g_seq, g_drop, g_ret, g_asg, g_if, g_for, g_app, g_set, kk_ok, kS_ok, kQ_nx, kQ_rt, kQ_bk, kQ_ct, kk_ex, kS_ex, kQ_ex, g_raise, e_isi, g_asgT, e_grd, g_try, g_tryAs, g_appT, e_chainN, lkQ_1, lkQ_2, noX_rt, noX_nx, noX_bk, noX_ct, hdQ_0, hdQ_s, tryQ_ex, tryQ_rt, tryQ_nx, tryQ_bk, tryQ_ct, tasQ_ex, tasQ_rt, tasQ_nx, tasQ_bk, tasQ_ct, has_some, sl_0, sl_s, st_0, st_s, v_add, v_sub, v_neg, v_lt, v_le, v_gt, v_ge, v_eqi, v_nei, v_is, v_isNot, v_len, v_lenT, v_abs, v_int, v_item, v_itemT, v_list, v_max, v_min, v_repr, blD_bl, truD_bl, truD_lst, isF_int, isF_bl, isF_non, isF_tup, isF_str, isF_lf, isF_lk, isF_lo, isF_ll, at_0, at_1, at_2, ix_0, ix_1, ix_2, cap_i, cap_t, noL_i, noL_n, noL_b, noL_t, ck_0, ck_s, lk_0, lk_1, lk_2, lk_3, lk_4, ln_0, ln_1, ln_2, ln_3, ln_4, own_o, own_l, own_f, its_o, its_l, its_f, lend_o, lend_i, lend_b, lend_n, lend_s, lend_t, cap_k, cap_f, lend_l, lend_f, sh_o, sh_l, sh_f, sh_k, Bool.or_true, Bool.true_or, Bool.or_false, Bool.false_or, intD, isLst, lstO, List.set_cons_zero, List.set_cons_succ, bind_S, ty_i, ty_b, ty_s, ty_t, ty_l, ty_n, is_ii, is_ib, is_is, is_it, is_il, is_bi, is_bb, is_bs, is_bt, is_bl, is_si, is_sb, is_ss, is_st, is_sl, is_ti, is_tb, is_ts, is_tt, is_tl, is_li, is_lb, is_ls, is_lt, is_ll, is_ni, is_nb, is_ns, is_nt, is_nl, v_eqS, v_neS, v_inS, v_notInS, truD_n, truD_t, cap_s, cap_n, cap_b, noL_s, its_t, own_t, own_s, its_s, sv_n, sv_i, sv_s, sv_b, isStr_s, isNon_n, isNon_i, isNon_s, isNon_t, isNon_l, v_tup, forL_0, kL_nx, kL_ct, kL_bk, kL_rt, kL_ex, tg_n, tg_t, tg_0, tg_s, wp_0, wp_s, bk_0, bk_s, rd_0, rd_s, sb_a, sb_l, si_a, si_l, hd_0, out_t, out_f, argD, ite_self, List.map_cons, List.map_nil, List.append_nil, List.cons_append, List.nil_append, Bool.and_true, Bool.true_and, Bool.not_true, Bool.not_false, Bool.and_false, Bool.false_and, true_and, and_true, decide_eq_true_eq, Bool.false_eq_true, if_false, if_true, ite_true, ite_false, reduceIte, Bool.not_eq_true', Bool.true_eq_false, eq_self]
        rw [show decide ((([stD x, stD y].length : Nat) : Int) = 2) = true from rfl]
        simp only [e_cst, e_nil, e_yes, e_var, e_fv, e_mv, e_cons, e_dfr, e_op, e_tup, e_lst, e_tr, e_notT, e_andT, e_orT, e_andV, e_orV, e_notV, e_opq, e_if, e_call, e_callM, e_chain, e_src, e_rng, e_lc, g_nx, g_retN, g_brk, g_cnt, g_seq, g_drop, g_ret, g_asg, g_if, g_for, g_app, g_set, kk_ok, kS_ok, kQ_nx, kQ_rt, kQ_bk, kQ_ct, kk_ex, kS_ex, kQ_ex, g_raise, e_isi, g_asgT, e_grd, g_try, g_tryAs, g_appT, e_chainN, lkQ_1, lkQ_2, noX_rt, noX_nx, noX_bk, noX_ct, hdQ_0, hdQ_s, tryQ_ex, tryQ_rt, tryQ_nx, tryQ_bk, tryQ_ct, tasQ_ex, tasQ_rt, tasQ_nx, tasQ_bk, tasQ_ct, has_some, sl_0, sl_s, st_0, st_s, v_add, v_sub, v_neg, v_lt, v_le, v_gt, v_ge, v_eqi, v_nei, v_is, v_isNot, v_len, v_lenT, v_abs, v_int, v_item, v_itemT, v_list, v_max, v_min, v_repr, blD_bl, truD_bl, truD_lst, isF_int, isF_bl, isF_non, isF_tup, isF_str, isF_lf, isF_lk, isF_lo, isF_ll, at_0, at_1, at_2, ix_0, ix_1, ix_2, cap_i, cap_t, noL_i, noL_n, noL_b, noL_t, ck_0, ck_s, lk_0, lk_1, lk_2, lk_3, lk_4, ln_0, ln_1, ln_2, ln_3, ln_4, own_o, own_l, own_f, its_o, its_l, its_f, lend_o, lend_i, lend_b, lend_n, lend_s, lend_t, cap_k, cap_f, lend_l, lend_f, sh_o, sh_l, sh_f, sh_k, Bool.or_true, Bool.true_or, Bool.or_false, Bool.false_or, intD, isLst, lstO, List.set_cons_zero, List.set_cons_succ, bind_S, ty_i, ty_b, ty_s, ty_t, ty_l, ty_n, is_ii, is_ib, is_is, is_it, is_il, is_bi, is_bb, is_bs, is_bt, is_bl, is_si, is_sb, is_ss, is_st, is_sl, is_ti, is_tb, is_ts, is_tt, is_tl, is_li, is_lb, is_ls, is_lt, is_ll, is_ni, is_nb, is_ns, is_nt, is_nl, v_eqS, v_neS, v_inS, v_notInS, truD_n, truD_t, cap_s, cap_n, cap_b, noL_s, its_t, own_t, own_s, its_s, sv_n, sv_i, sv_s, sv_b, isStr_s, isNon_n, isNon_i, isNon_s, isNon_t, isNon_l, v_tup, forL_0, kL_nx, kL_ct, kL_bk, kL_rt, kL_ex, tg_n, tg_t, tg_0, tg_s, wp_0, wp_s, bk_0, bk_s, rd_0, rd_s, sb_a, sb_l, si_a, si_l, hd_0, out_t, out_f, argD, ite_self, List.map_cons, List.map_nil, List.append_nil, List.cons_append, List.nil_append, Bool.and_true, Bool.true_and, Bool.not_true, Bool.not_false, Bool.and_false, Bool.false_and, true_and, and_true, decide_eq_true_eq, Bool.false_eq_true, if_false, if_true, ite_true, ite_false, reduceIte, Bool.not_eq_true', Bool.true_eq_false, eq_self]
        exact hk
      simp only [partsP, partP, exy] at h
      have cx : cap (stD x) = .str (S x) := rfl
      have cy : cap (stD y) = .str (S y) := rfl
      simp only [e_cst, e_nil, e_yes, e_var, e_fv, e_mv, e_cons, e_dfr, e_op, e_tup, e_lst, e_tr, e_notT, e_andT, e_orT, e_andV, e_orV, e_notV, e_opq, e_if, e_call, e_callM, e_chain, e_src, e_rng, e_lc, g_nx, g_retN, g_brk, g_cnt, g_seq, g_drop, g_ret, g_asg, g_if, g_for, g_app, g_set, kk_ok, kS_ok, kQ_nx, kQ_rt, kQ_bk, kQ_ct, kk_ex, kS_ex, kQ_ex, g_raise, e_isi, g_asgT, e_grd, g_try, g_tryAs, g_appT, e_chainN, lkQ_1, lkQ_2, noX_rt, noX_nx, noX_bk, noX_ct, hdQ_0, hdQ_s, tryQ_ex, tryQ_rt, tryQ_nx, tryQ_bk, tryQ_ct, tasQ_ex, tasQ_rt, tasQ_nx, tasQ_bk, tasQ_ct, has_some, sl_0, sl_s, st_0, st_s, v_add, v_sub, v_neg, v_lt, v_le, v_gt, v_ge, v_eqi, v_nei, v_is, v_isNot, v_len, v_lenT, v_abs, v_int, v_item, v_itemT, v_list, v_max, v_min, v_repr, blD_bl, truD_bl, truD_lst, isF_int, isF_bl, isF_non, isF_tup, isF_str, isF_lf, isF_lk, isF_lo, isF_ll, at_0, at_1, at_2, ix_0, ix_1, ix_2, cap_i, cap_t, noL_i, noL_n, noL_b, noL_t, ck_0, ck_s, lk_0, lk_1, lk_2, lk_3, lk_4, ln_0, ln_1, ln_2, ln_3, ln_4, own_o, own_l, own_f, its_o, its_l, its_f, lend_o, lend_i, lend_b, lend_n, lend_s, lend_t, cap_k, cap_f, lend_l, lend_f, sh_o, sh_l, sh_f, sh_k, Bool.or_true, Bool.true_or, Bool.or_false, Bool.false_or, intD, isLst, lstO, List.set_cons_zero, List.set_cons_succ, bind_S, ty_i, ty_b, ty_s, ty_t, ty_l, ty_n, is_ii, is_ib, is_is, is_it, is_il, is_bi, is_bb, is_bs, is_bt, is_bl, is_si, is_sb, is_ss, is_st, is_sl, is_ti, is_tb, is_ts, is_tt, is_tl, is_li, is_lb, is_ls, is_lt, is_ll, is_ni, is_nb, is_ns, is_nt, is_nl, v_eqS, v_neS, v_inS, v_notInS, truD_n, truD_t, cap_s, cap_n, cap_b, noL_s, its_t, own_t, own_s, its_s, sv_n, sv_i, sv_s, sv_b, isStr_s, isNon_n, isNon_i, isNon_s, isNon_t, isNon_l, v_tup, forL_0, kL_nx, kL_ct, kL_bk, kL_rt, kL_ex, tg_n, tg_t, tg_0, tg_s, wp_0, wp_s, bk_0, bk_s, rd_0, rd_s, sb_a, sb_l, si_a, si_l, hd_0, out_t, out_f, argD, ite_self, List.map_cons, List.map_nil, List.append_nil, List.cons_append, List.nil_append, Bool.and_true, Bool.true_and, Bool.not_true, Bool.not_false, Bool.and_false, Bool.false_and, true_and, and_true, decide_eq_true_eq, Bool.false_eq_true, if_false, if_true, ite_true, ite_false, reduceIte, Bool.not_eq_true', Bool.true_eq_false, eq_self, at0, at1, isF_st, cx, cy, rx]
      cases h1 : readL x with
      | none =>
        rw [h1] at h
        simp only [e_cst, e_nil, e_yes, e_var, e_fv, e_mv, e_cons, e_dfr, e_op, e_tup, e_lst, e_tr, e_notT, e_andT, e_orT, e_andV, e_orV, e_notV, e_opq, e_if, e_call, e_callM, e_chain, e_src, e_rng, e_lc, g_nx, g_retN, g_brk, g_cnt, g_seq, g_drop, g_ret, g_asg, g_if, g_for, g_app, g_set, kk_ok, kS_ok, kQ_nx, kQ_rt, kQ_bk, kQ_ct, kk_ex, kS_ex, kQ_ex, g_raise, e_isi, g_asgT, e_grd, g_try, g_tryAs, g_appT, e_chainN, lkQ_1, lkQ_2, noX_rt, noX_nx, noX_bk, noX_ct, hdQ_0, hdQ_s, tryQ_ex, tryQ_rt, tryQ_nx, tryQ_bk, tryQ_ct, tasQ_ex, tasQ_rt, tasQ_nx, tasQ_bk, tasQ_ct, has_some, sl_0, sl_s, st_0, st_s, v_add, v_sub, v_neg, v_lt, v_le, v_gt, v_ge, v_eqi, v_nei, v_is, v_isNot, v_len, v_lenT, v_abs, v_int, v_item, v_itemT, v_list, v_max, v_min, v_repr, blD_bl, truD_bl, truD_lst, isF_int, isF_bl, isF_non, isF_tup, isF_str, isF_lf, isF_lk, isF_lo, isF_ll, at_0, at_1, at_2, ix_0, ix_1, ix_2, cap_i, cap_t, noL_i, noL_n, noL_b, noL_t, ck_0, ck_s, lk_0, lk_1, lk_2, lk_3, lk_4, ln_0, ln_1, ln_2, ln_3, ln_4, own_o, own_l, own_f, its_o, its_l, its_f, lend_o, lend_i, lend_b, lend_n, lend_s, lend_t, cap_k, cap_f, lend_l, lend_f, sh_o, sh_l, sh_f, sh_k, Bool.or_true, Bool.true_or, Bool.or_false, Bool.false_or, intD, isLst, lstO, List.set_cons_zero, List.set_cons_succ, bind_S, ty_i, ty_b, ty_s, ty_t, ty_l, ty_n, is_ii, is_ib, is_is, is_it, is_il, is_bi, is_bb, is_bs, is_bt, is_bl, is_si, is_sb, is_ss, is_st, is_sl, is_ti, is_tb, is_ts, is_tt, is_tl, is_li, is_lb, is_ls, is_lt, is_ll, is_ni, is_nb, is_ns, is_nt, is_nl, v_eqS, v_neS, v_inS, v_notInS, truD_n, truD_t, cap_s, cap_n, cap_b, noL_s, its_t, own_t, own_s, its_s, sv_n, sv_i, sv_s, sv_b, isStr_s, isNon_n, isNon_i, isNon_s, isNon_t, isNon_l, v_tup, forL_0, kL_nx, kL_ct, kL_bk, kL_rt, kL_ex, tg_n, tg_t, tg_0, tg_s, wp_0, wp_s, bk_0, bk_s, rd_0, rd_s, sb_a, sb_l, si_a, si_l, hd_0, out_t, out_f, argD, ite_self, List.map_cons, List.map_nil, List.append_nil, List.cons_append, List.nil_append, Bool.and_true, Bool.true_and, Bool.not_true, Bool.not_false, Bool.and_false, Bool.false_and, true_and, and_true, decide_eq_true_eq, Bool.false_eq_true, if_false, if_true, ite_true, ite_false, reduceIte, Bool.not_eq_true', Bool.true_eq_false, eq_self, oi]
        exact h _ _ _
      | some i =>
        rw [h1] at h
        simp only [e_cst, e_nil, e_yes, e_var, e_fv, e_mv, e_cons, e_dfr, e_op, e_tup, e_lst, e_tr, e_notT, e_andT, e_orT, e_andV, e_orV, e_notV, e_opq, e_if, e_call, e_callM, e_chain, e_src, e_rng, e_lc, g_nx, g_retN, g_brk, g_cnt, g_seq, g_drop, g_ret, g_asg, g_if, g_for, g_app, g_set, kk_ok, kS_ok, kQ_nx, kQ_rt, kQ_bk, kQ_ct, kk_ex, kS_ex, kQ_ex, g_raise, e_isi, g_asgT, e_grd, g_try, g_tryAs, g_appT, e_chainN, lkQ_1, lkQ_2, noX_rt, noX_nx, noX_bk, noX_ct, hdQ_0, hdQ_s, tryQ_ex, tryQ_rt, tryQ_nx, tryQ_bk, tryQ_ct, tasQ_ex, tasQ_rt, tasQ_nx, tasQ_bk, tasQ_ct, has_some, sl_0, sl_s, st_0, st_s, v_add, v_sub, v_neg, v_lt, v_le, v_gt, v_ge, v_eqi, v_nei, v_is, v_isNot, v_len, v_lenT, v_abs, v_int, v_item, v_itemT, v_list, v_max, v_min, v_repr, blD_bl, truD_bl, truD_lst, isF_int, isF_bl, isF_non, isF_tup, isF_str, isF_lf, isF_lk, isF_lo, isF_ll, at_0, at_1, at_2, ix_0, ix_1, ix_2, cap_i, cap_t, noL_i, noL_n, noL_b, noL_t, ck_0, ck_s, lk_0, lk_1, lk_2, lk_3, lk_4, ln_0, ln_1, ln_2, ln_3, ln_4, own_o, own_l, own_f, its_o, its_l, its_f, lend_o, lend_i, lend_b, lend_n, lend_s, lend_t, cap_k, cap_f, lend_l, lend_f, sh_o, sh_l, sh_f, sh_k, Bool.or_true, Bool.true_or, Bool.or_false, Bool.false_or, intD, isLst, lstO, List.set_cons_zero, List.set_cons_succ, bind_S, ty_i, ty_b, ty_s, ty_t, ty_l, ty_n, is_ii, is_ib, is_is, is_it, is_il, is_bi, is_bb, is_bs, is_bt, is_bl, is_si, is_sb, is_ss, is_st, is_sl, is_ti, is_tb, is_ts, is_tt, is_tl, is_li, is_lb, is_ls, is_lt, is_ll, is_ni, is_nb, is_ns, is_nt, is_nl, v_eqS, v_neS, v_inS, v_notInS, truD_n, truD_t, cap_s, cap_n, cap_b, noL_s, its_t, own_t, own_s, its_s, sv_n, sv_i, sv_s, sv_b, isStr_s, isNon_n, isNon_i, isNon_s, isNon_t, isNon_l, v_tup, forL_0, kL_nx, kL_ct, kL_bk, kL_rt, kL_ex, tg_n, tg_t, tg_0, tg_s, wp_0, wp_s, bk_0, bk_s, rd_0, rd_s, sb_a, sb_l, si_a, si_l, hd_0, out_t, out_f, argD, ite_self, List.map_cons, List.map_nil, List.append_nil, List.cons_append, List.nil_append, Bool.and_true, Bool.true_and, Bool.not_true, Bool.not_false, Bool.and_false, Bool.false_and, true_and, and_true, decide_eq_true_eq, Bool.false_eq_true, if_false, if_true, ite_true, ite_false, reduceIte, Bool.not_eq_true', Bool.true_eq_false, eq_self, at0, at1, isF_st, cx, cy, rx, ry, oi]
        cases h2 : readL y with
        | none =>
          rw [h2] at h
          simp only [e_cst, e_nil, e_yes, e_var, e_fv, e_mv, e_cons, e_dfr, e_op, e_tup, e_lst, e_tr, e_notT, e_andT, e_orT, e_andV, e_orV, e_notV, e_opq, e_if, e_call, e_callM, e_chain, e_src, e_rng, e_lc, g_nx, g_retN, g_brk, g_cnt, g_seq, g_drop, g_ret, g_asg, g_if, g_for, g_app, g_set, kk_ok, kS_ok, kQ_nx, kQ_rt, kQ_bk, kQ_ct, kk_ex, kS_ex, kQ_ex, g_raise, e_isi, g_asgT, e_grd, g_try, g_tryAs, g_appT, e_chainN, lkQ_1, lkQ_2, noX_rt, noX_nx, noX_bk, noX_ct, hdQ_0, hdQ_s, tryQ_ex, tryQ_rt, tryQ_nx, tryQ_bk, tryQ_ct, tasQ_ex, tasQ_rt, tasQ_nx, tasQ_bk, tasQ_ct, has_some, sl_0, sl_s, st_0, st_s, v_add, v_sub, v_neg, v_lt, v_le, v_gt, v_ge, v_eqi, v_nei, v_is, v_isNot, v_len, v_lenT, v_abs, v_int, v_item, v_itemT, v_list, v_max, v_min, v_repr, blD_bl, truD_bl, truD_lst, isF_int, isF_bl, isF_non, isF_tup, isF_str, isF_lf, isF_lk, isF_lo, isF_ll, at_0, at_1, at_2, ix_0, ix_1, ix_2, cap_i, cap_t, noL_i, noL_n, noL_b, noL_t, ck_0, ck_s, lk_0, lk_1, lk_2, lk_3, lk_4, ln_0, ln_1, ln_2, ln_3, ln_4, own_o, own_l, own_f, its_o, its_l, its_f, lend_o, lend_i, lend_b, lend_n, lend_s, lend_t, cap_k, cap_f, lend_l, lend_f, sh_o, sh_l, sh_f, sh_k, Bool.or_true, Bool.true_or, Bool.or_false, Bool.false_or, intD, isLst, lstO, List.set_cons_zero, List.set_cons_succ, bind_S, ty_i, ty_b, ty_s, ty_t, ty_l, ty_n, is_ii, is_ib, is_is, is_it, is_il, is_bi, is_bb, is_bs, is_bt, is_bl, is_si, is_sb, is_ss, is_st, is_sl, is_ti, is_tb, is_ts, is_tt, is_tl, is_li, is_lb, is_ls, is_lt, is_ll, is_ni, is_nb, is_ns, is_nt, is_nl, v_eqS, v_neS, v_inS, v_notInS, truD_n, truD_t, cap_s, cap_n, cap_b, noL_s, its_t, own_t, own_s, its_s, sv_n, sv_i, sv_s, sv_b, isStr_s, isNon_n, isNon_i, isNon_s, isNon_t, isNon_l, v_tup, forL_0, kL_nx, kL_ct, kL_bk, kL_rt, kL_ex, tg_n, tg_t, tg_0, tg_s, wp_0, wp_s, bk_0, bk_s, rd_0, rd_s, sb_a, sb_l, si_a, si_l, hd_0, out_t, out_f, argD, ite_self, List.map_cons, List.map_nil, List.append_nil, List.cons_append, List.nil_append, Bool.and_true, Bool.true_and, Bool.not_true, Bool.not_false, Bool.and_false, Bool.false_and, true_and, and_true, decide_eq_true_eq, Bool.false_eq_true, if_false, if_true, ite_true, ite_false, reduceIte, Bool.not_eq_true', Bool.true_eq_false, eq_self, oi]
          exact h _ _ _
        | some j =>
          rw [h2] at h
          simp only [e_cst, e_nil, e_yes, e_var, e_fv, e_mv, e_cons, e_dfr, e_op, e_tup, e_lst, e_tr, e_notT, e_andT, e_orT, e_andV, e_orV, e_notV, e_opq, e_if, e_call, e_callM, e_chain, e_src, e_rng, e_lc, g_nx, g_retN, g_brk, g_cnt, g_seq, g_drop, g_ret, g_asg, g_if, g_for, g_app, g_set, kk_ok, kS_ok, kQ_nx, kQ_rt, kQ_bk, kQ_ct, kk_ex, kS_ex, kQ_ex, g_raise, e_isi, g_asgT, e_grd, g_try, g_tryAs, g_appT, e_chainN, lkQ_1, lkQ_2, noX_rt, noX_nx, noX_bk, noX_ct, hdQ_0, hdQ_s, tryQ_ex, tryQ_rt, tryQ_nx, tryQ_bk, tryQ_ct, tasQ_ex, tasQ_rt, tasQ_nx, tasQ_bk, tasQ_ct, has_some, sl_0, sl_s, st_0, st_s, v_add, v_sub, v_neg, v_lt, v_le, v_gt, v_ge, v_eqi, v_nei, v_is, v_isNot, v_len, v_lenT, v_abs, v_int, v_item, v_itemT, v_list, v_max, v_min, v_repr, blD_bl, truD_bl, truD_lst, isF_int, isF_bl, isF_non, isF_tup, isF_str, isF_lf, isF_lk, isF_lo, isF_ll, at_0, at_1, at_2, ix_0, ix_1, ix_2, cap_i, cap_t, noL_i, noL_n, noL_b, noL_t, ck_0, ck_s, lk_0, lk_1, lk_2, lk_3, lk_4, ln_0, ln_1, ln_2, ln_3, ln_4, own_o, own_l, own_f, its_o, its_l, its_f, lend_o, lend_i, lend_b, lend_n, lend_s, lend_t, cap_k, cap_f, lend_l, lend_f, sh_o, sh_l, sh_f, sh_k, Bool.or_true, Bool.true_or, Bool.or_false, Bool.false_or, intD, isLst, lstO, List.set_cons_zero, List.set_cons_succ, bind_S, ty_i, ty_b, ty_s, ty_t, ty_l, ty_n, is_ii, is_ib, is_is, is_it, is_il, is_bi, is_bb, is_bs, is_bt, is_bl, is_si, is_sb, is_ss, is_st, is_sl, is_ti, is_tb, is_ts, is_tt, is_tl, is_li, is_lb, is_ls, is_lt, is_ll, is_ni, is_nb, is_ns, is_nt, is_nl, v_eqS, v_neS, v_inS, v_notInS, truD_n, truD_t, cap_s, cap_n, cap_b, noL_s, its_t, own_t, own_s, its_s, sv_n, sv_i, sv_s, sv_b, isStr_s, isNon_n, isNon_i, isNon_s, isNon_t, isNon_l, v_tup, forL_0, kL_nx, kL_ct, kL_bk, kL_rt, kL_ex, tg_n, tg_t, tg_0, tg_s, wp_0, wp_s, bk_0, bk_s, rd_0, rd_s, sb_a, sb_l, si_a, si_l, hd_0, out_t, out_f, argD, ite_self, List.map_cons, List.map_nil, List.append_nil, List.cons_append, List.nil_append, Bool.and_true, Bool.true_and, Bool.not_true, Bool.not_false, Bool.and_false, Bool.false_and, true_and, and_true, decide_eq_true_eq, Bool.false_eq_true, if_false, if_true, ite_true, ite_false, reduceIte, Bool.not_eq_true', Bool.true_eq_false, eq_self, at0, at1, isF_st, cx, cy, rx, ry, h1, h2, oi, hl2]
          rw [snoc]
          refine lp_due r (acc ++ [(i, j)]) _ _ (fun q hq => hp q (List.mem_cons_of_mem _ hq)) (by simp; omega) fun f a b => ?_
          have := h f a b
          simp only at this
          cases h3 : partsP r with
          | inl c => rw [h3] at this; exact this
          | inr s => rw [h3] at this; simpa using this
    · have e1 : decide (((((TL.spl [45] 0 [] p).map stD).length : Nat) : Int) = 2) = false := by
        rw [List.length_map, decide_eq_false_iff_not]; omega
      have e2 : partP p = .inl 2 := e _ _
      simp only [partsP, e2] at h
      simp only [e_cst, e_nil, e_yes, e_var, e_fv, e_mv, e_cons, e_dfr, e_op, e_tup, e_lst, e_tr, e_notT, e_andT, e_orT, e_andV, e_orV, e_notV, e_opq, e_if, e_call, e_callM, e_chain, e_src, e_rng, e_lc, g_nx, g_retN, g_brk, g_cnt, g_seq, g_drop, g_ret, g_asg, g_if, g_for, g_app, g_set, kk_ok, kS_ok, kQ_nx, kQ_rt, kQ_bk, kQ_ct, kk_ex, kS_ex, kQ_ex, g_raise, e_isi, g_asgT, e_grd, g_try, g_tryAs, g_appT, e_chainN, lkQ_1, lkQ_2, noX_rt, noX_nx, noX_bk, noX_ct, hdQ_0, hdQ_s, tryQ_ex, tryQ_rt, tryQ_nx, tryQ_bk, tryQ_ct, tasQ_ex, tasQ_rt, tasQ_nx, tasQ_bk, tasQ_ct, has_some, sl_0, sl_s, st_0, st_s, v_add, v_sub, v_neg, v_lt, v_le, v_gt, v_ge, v_eqi, v_nei, v_is, v_isNot, v_len, v_lenT, v_abs, v_int, v_item, v_itemT, v_list, v_max, v_min, v_repr, blD_bl, truD_bl, truD_lst, isF_int, isF_bl, isF_non, isF_tup, isF_str, isF_lf, isF_lk, isF_lo, isF_ll, at_0, at_1, at_2, ix_0, ix_1, ix_2, cap_i, cap_t, noL_i, noL_n, noL_b, noL_t, ck_0, ck_s, lk_0, lk_1, lk_2, lk_3, lk_4, ln_0, ln_1, ln_2, ln_3, ln_4, own_o, own_l, own_f, its_o, its_l, its_f, lend_o, lend_i, lend_b, lend_n, lend_s, lend_t, cap_k, cap_f, lend_l, lend_f, sh_o, sh_l, sh_f, sh_k, Bool.or_true, Bool.true_or, Bool.or_false, Bool.false_or, intD, isLst, lstO, List.set_cons_zero, List.set_cons_succ, bind_S, ty_i, ty_b, ty_s, ty_t, ty_l, ty_n, is_ii, is_ib, is_is, is_it, is_il, is_bi, is_bb, is_bs, is_bt, is_bl, is_si, is_sb, is_ss, is_st, is_sl, is_ti, is_tb, is_ts, is_tt, is_tl, is_li, is_lb, is_ls, is_lt, is_ll, is_ni, is_nb, is_ns, is_nt, is_nl, v_eqS, v_neS, v_inS, v_notInS, truD_n, truD_t, cap_s, cap_n, cap_b, noL_s, its_t, own_t, own_s, its_s, sv_n, sv_i, sv_s, sv_b, isStr_s, isNon_n, isNon_i, isNon_s, isNon_t, isNon_l, v_tup, forL_0, kL_nx, kL_ct, kL_bk, kL_rt, kL_ex, tg_n, tg_t, tg_0, tg_s, wp_0, wp_s, bk_0, bk_s, rd_0, rd_s, sb_a, sb_l, si_a, si_l, hd_0, out_t, out_f, argD, ite_self, List.map_cons, List.map_nil, List.append_nil, List.cons_append, List.nil_append, Bool.and_true, Bool.true_and, Bool.not_true, Bool.not_false, Bool.and_false, Bool.false_and, true_and, and_true, decide_eq_true_eq, Bool.false_eq_true, if_false, if_true, ite_true, ite_false, reduceIte, Bool.not_eq_true', Bool.true_eq_false, eq_self, e1]
      exact h _ _ _
theorem ok_due (w : List Nat) (hw : w.length ≤ 10000) : F__law_due [.str (S w)] = some (.ok (dueD .f w), [none]) := by
  unfold F__law_due
  refine fn_go rfl ?_
  show Go ev__law_due [some (.str (S w)), none, none, none] _
  unfold ev__law_due dueD
  by_cases h : w = [45]
  · rw [if_pos h]
    have := ne_dash w
    simp only [h, decide_true] at this
    simp only [e_cst, e_nil, e_yes, e_var, e_fv, e_mv, e_cons, e_dfr, e_op, e_tup, e_lst, e_tr, e_notT, e_andT, e_orT, e_andV, e_orV, e_notV, e_opq, e_if, e_call, e_callM, e_chain, e_src, e_rng, e_lc, g_nx, g_retN, g_brk, g_cnt, g_seq, g_drop, g_ret, g_asg, g_if, g_for, g_app, g_set, kk_ok, kS_ok, kQ_nx, kQ_rt, kQ_bk, kQ_ct, kk_ex, kS_ex, kQ_ex, g_raise, e_isi, g_asgT, e_grd, g_try, g_tryAs, g_appT, e_chainN, lkQ_1, lkQ_2, noX_rt, noX_nx, noX_bk, noX_ct, hdQ_0, hdQ_s, tryQ_ex, tryQ_rt, tryQ_nx, tryQ_bk, tryQ_ct, tasQ_ex, tasQ_rt, tasQ_nx, tasQ_bk, tasQ_ct, has_some, sl_0, sl_s, st_0, st_s, v_add, v_sub, v_neg, v_lt, v_le, v_gt, v_ge, v_eqi, v_nei, v_is, v_isNot, v_len, v_lenT, v_abs, v_int, v_item, v_itemT, v_list, v_max, v_min, v_repr, blD_bl, truD_bl, truD_lst, isF_int, isF_bl, isF_non, isF_tup, isF_str, isF_lf, isF_lk, isF_lo, isF_ll, at_0, at_1, at_2, ix_0, ix_1, ix_2, cap_i, cap_t, noL_i, noL_n, noL_b, noL_t, ck_0, ck_s, lk_0, lk_1, lk_2, lk_3, lk_4, ln_0, ln_1, ln_2, ln_3, ln_4, own_o, own_l, own_f, its_o, its_l, its_f, lend_o, lend_i, lend_b, lend_n, lend_s, lend_t, cap_k, cap_f, lend_l, lend_f, sh_o, sh_l, sh_f, sh_k, Bool.or_true, Bool.true_or, Bool.or_false, Bool.false_or, intD, isLst, lstO, List.set_cons_zero, List.set_cons_succ, bind_S, ty_i, ty_b, ty_s, ty_t, ty_l, ty_n, is_ii, is_ib, is_is, is_it, is_il, is_bi, is_bb, is_bs, is_bt, is_bl, is_si, is_sb, is_ss, is_st, is_sl, is_ti, is_tb, is_ts, is_tt, is_tl, is_li, is_lb, is_ls, is_lt, is_ll, is_ni, is_nb, is_ns, is_nt, is_nl, v_eqS, v_neS, v_inS, v_notInS, truD_n, truD_t, cap_s, cap_n, cap_b, noL_s, its_t, own_t, own_s, its_s, sv_n, sv_i, sv_s, sv_b, isStr_s, isNon_n, isNon_i, isNon_s, isNon_t, isNon_l, v_tup, forL_0, kL_nx, kL_ct, kL_bk, kL_rt, kL_ex, tg_n, tg_t, tg_0, tg_s, wp_0, wp_s, bk_0, bk_s, rd_0, rd_s, sb_a, sb_l, si_a, si_l, hd_0, out_t, out_f, argD, ite_self, List.map_cons, List.map_nil, List.append_nil, List.cons_append, List.nil_append, Bool.and_true, Bool.true_and, Bool.not_true, Bool.not_false, Bool.and_false, Bool.false_and, true_and, and_true, decide_eq_true_eq, Bool.false_eq_true, if_false, if_true, ite_true, ite_false, reduceIte, Bool.not_eq_true', Bool.true_eq_false, eq_self, dash, h, this]
    rfl
  · rw [if_neg h]
    have e := ne_dash w
    simp only [h, decide_false] at e
    have es := split_c (c := 44) (by decide) (l := w) (by omega)
    have sc := spl_count (c := 44) (by decide) w
    simp only [e_cst, e_nil, e_yes, e_var, e_fv, e_mv, e_cons, e_dfr, e_op, e_tup, e_lst, e_tr, e_notT, e_andT, e_orT, e_andV, e_orV, e_notV, e_opq, e_if, e_call, e_callM, e_chain, e_src, e_rng, e_lc, g_nx, g_retN, g_brk, g_cnt, g_seq, g_drop, g_ret, g_asg, g_if, g_for, g_app, g_set, kk_ok, kS_ok, kQ_nx, kQ_rt, kQ_bk, kQ_ct, kk_ex, kS_ex, kQ_ex, g_raise, e_isi, g_asgT, e_grd, g_try, g_tryAs, g_appT, e_chainN, lkQ_1, lkQ_2, noX_rt, noX_nx, noX_bk, noX_ct, hdQ_0, hdQ_s, tryQ_ex, tryQ_rt, tryQ_nx, tryQ_bk, tryQ_ct, tasQ_ex, tasQ_rt, tasQ_nx, tasQ_bk, tasQ_ct, has_some, sl_0, sl_s, st_0, st_s, v_add, v_sub, v_neg, v_lt, v_le, v_gt, v_ge, v_eqi, v_nei, v_is, v_isNot, v_len, v_lenT, v_abs, v_int, v_item, v_itemT, v_list, v_max, v_min, v_repr, blD_bl, truD_bl, truD_lst, isF_int, isF_bl, isF_non, isF_tup, isF_str, isF_lf, isF_lk, isF_lo, isF_ll, at_0, at_1, at_2, ix_0, ix_1, ix_2, cap_i, cap_t, noL_i, noL_n, noL_b, noL_t, ck_0, ck_s, lk_0, lk_1, lk_2, lk_3, lk_4, ln_0, ln_1, ln_2, ln_3, ln_4, own_o, own_l, own_f, its_o, its_l, its_f, lend_o, lend_i, lend_b, lend_n, lend_s, lend_t, cap_k, cap_f, lend_l, lend_f, sh_o, sh_l, sh_f, sh_k, Bool.or_true, Bool.true_or, Bool.or_false, Bool.false_or, intD, isLst, lstO, List.set_cons_zero, List.set_cons_succ, bind_S, ty_i, ty_b, ty_s, ty_t, ty_l, ty_n, is_ii, is_ib, is_is, is_it, is_il, is_bi, is_bb, is_bs, is_bt, is_bl, is_si, is_sb, is_ss, is_st, is_sl, is_ti, is_tb, is_ts, is_tt, is_tl, is_li, is_lb, is_ls, is_lt, is_ll, is_ni, is_nb, is_ns, is_nt, is_nl, v_eqS, v_neS, v_inS, v_notInS, truD_n, truD_t, cap_s, cap_n, cap_b, noL_s, its_t, own_t, own_s, its_s, sv_n, sv_i, sv_s, sv_b, isStr_s, isNon_n, isNon_i, isNon_s, isNon_t, isNon_l, v_tup, forL_0, kL_nx, kL_ct, kL_bk, kL_rt, kL_ex, tg_n, tg_t, tg_0, tg_s, wp_0, wp_s, bk_0, bk_s, rd_0, rd_s, sb_a, sb_l, si_a, si_l, hd_0, out_t, out_f, argD, ite_self, List.map_cons, List.map_nil, List.append_nil, List.cons_append, List.nil_append, Bool.and_true, Bool.true_and, Bool.not_true, Bool.not_false, Bool.and_false, Bool.false_and, true_and, and_true, decide_eq_true_eq, Bool.false_eq_true, if_false, if_true, ite_true, ite_false, reduceIte, Bool.not_eq_true', Bool.true_eq_false, eq_self, dash, comma, e, es]
    refine lp_due (TL.spl [44] 0 [] w) [] none none (fun p hp => Nat.le_trans (spl_len (c := 44) (by decide) hp) (by omega)) (by simp; omega) fun f a b => ?_
    cases h3 : partsP (TL.spl [44] 0 [] w) with
    | inl c => simp only [e_cst, e_nil, e_yes, e_var, e_fv, e_mv, e_cons, e_dfr, e_op, e_tup, e_lst, e_tr, e_notT, e_andT, e_orT, e_andV, e_orV, e_notV, e_opq, e_if, e_call, e_callM, e_chain, e_src, e_rng, e_lc, g_nx, g_retN, g_brk, g_cnt, g_seq, g_drop, g_ret, g_asg, g_if, g_for, g_app, g_set, kk_ok, kS_ok, kQ_nx, kQ_rt, kQ_bk, kQ_ct, kk_ex, kS_ex, kQ_ex, g_raise, e_isi, g_asgT, e_grd, g_try, g_tryAs, g_appT, e_chainN, lkQ_1, lkQ_2, noX_rt, noX_nx, noX_bk, noX_ct, hdQ_0, hdQ_s, tryQ_ex, tryQ_rt, tryQ_nx, tryQ_bk, tryQ_ct, tasQ_ex, tasQ_rt, tasQ_nx, tasQ_bk, tasQ_ct, has_some, sl_0, sl_s, st_0, st_s, v_add, v_sub, v_neg, v_lt, v_le, v_gt, v_ge, v_eqi, v_nei, v_is, v_isNot, v_len, v_lenT, v_abs, v_int, v_item, v_itemT, v_list, v_max, v_min, v_repr, blD_bl, truD_bl, truD_lst, isF_int, isF_bl, isF_non, isF_tup, isF_str, isF_lf, isF_lk, isF_lo, isF_ll, at_0, at_1, at_2, ix_0, ix_1, ix_2, cap_i, cap_t, noL_i, noL_n, noL_b, noL_t, ck_0, ck_s, lk_0, lk_1, lk_2, lk_3, lk_4, ln_0, ln_1, ln_2, ln_3, ln_4, own_o, own_l, own_f, its_o, its_l, its_f, lend_o, lend_i, lend_b, lend_n, lend_s, lend_t, cap_k, cap_f, lend_l, lend_f, sh_o, sh_l, sh_f, sh_k, Bool.or_true, Bool.true_or, Bool.or_false, Bool.false_or, intD, isLst, lstO, List.set_cons_zero, List.set_cons_succ, bind_S, ty_i, ty_b, ty_s, ty_t, ty_l, ty_n, is_ii, is_ib, is_is, is_it, is_il, is_bi, is_bb, is_bs, is_bt, is_bl, is_si, is_sb, is_ss, is_st, is_sl, is_ti, is_tb, is_ts, is_tt, is_tl, is_li, is_lb, is_ls, is_lt, is_ll, is_ni, is_nb, is_ns, is_nt, is_nl, v_eqS, v_neS, v_inS, v_notInS, truD_n, truD_t, cap_s, cap_n, cap_b, noL_s, its_t, own_t, own_s, its_s, sv_n, sv_i, sv_s, sv_b, isStr_s, isNon_n, isNon_i, isNon_s, isNon_t, isNon_l, v_tup, forL_0, kL_nx, kL_ct, kL_bk, kL_rt, kL_ex, tg_n, tg_t, tg_0, tg_s, wp_0, wp_s, bk_0, bk_s, rd_0, rd_s, sb_a, sb_l, si_a, si_l, hd_0, out_t, out_f, argD, ite_self, List.map_cons, List.map_nil, List.append_nil, List.cons_append, List.nil_append, Bool.and_true, Bool.true_and, Bool.not_true, Bool.not_false, Bool.and_false, Bool.false_and, true_and, and_true, decide_eq_true_eq, Bool.false_eq_true, if_false, if_true, ite_true, ite_false, reduceIte, Bool.not_eq_true', Bool.true_eq_false, eq_self]; rfl
    | inr s =>
      have ec := ok_good (d := .lst .l (s.map pr)) (xs := s.map two') (by rw [enc_two]; exact Sq.l)
      by_cases hg : goodR (s.map two') = true
      · simp only [e_cst, e_nil, e_yes, e_var, e_fv, e_mv, e_cons, e_dfr, e_op, e_tup, e_lst, e_tr, e_notT, e_andT, e_orT, e_andV, e_orV, e_notV, e_opq, e_if, e_call, e_callM, e_chain, e_src, e_rng, e_lc, g_nx, g_retN, g_brk, g_cnt, g_seq, g_drop, g_ret, g_asg, g_if, g_for, g_app, g_set, kk_ok, kS_ok, kQ_nx, kQ_rt, kQ_bk, kQ_ct, kk_ex, kS_ex, kQ_ex, g_raise, e_isi, g_asgT, e_grd, g_try, g_tryAs, g_appT, e_chainN, lkQ_1, lkQ_2, noX_rt, noX_nx, noX_bk, noX_ct, hdQ_0, hdQ_s, tryQ_ex, tryQ_rt, tryQ_nx, tryQ_bk, tryQ_ct, tasQ_ex, tasQ_rt, tasQ_nx, tasQ_bk, tasQ_ct, has_some, sl_0, sl_s, st_0, st_s, v_add, v_sub, v_neg, v_lt, v_le, v_gt, v_ge, v_eqi, v_nei, v_is, v_isNot, v_len, v_lenT, v_abs, v_int, v_item, v_itemT, v_list, v_max, v_min, v_repr, blD_bl, truD_bl, truD_lst, isF_int, isF_bl, isF_non, isF_tup, isF_str, isF_lf, isF_lk, isF_lo, isF_ll, at_0, at_1, at_2, ix_0, ix_1, ix_2, cap_i, cap_t, noL_i, noL_n, noL_b, noL_t, ck_0, ck_s, lk_0, lk_1, lk_2, lk_3, lk_4, ln_0, ln_1, ln_2, ln_3, ln_4, own_o, own_l, own_f, its_o, its_l, its_f, lend_o, lend_i, lend_b, lend_n, lend_s, lend_t, cap_k, cap_f, lend_l, lend_f, sh_o, sh_l, sh_f, sh_k, Bool.or_true, Bool.true_or, Bool.or_false, Bool.false_or, intD, isLst, lstO, List.set_cons_zero, List.set_cons_succ, bind_S, ty_i, ty_b, ty_s, ty_t, ty_l, ty_n, is_ii, is_ib, is_is, is_it, is_il, is_bi, is_bb, is_bs, is_bt, is_bl, is_si, is_sb, is_ss, is_st, is_sl, is_ti, is_tb, is_ts, is_tt, is_tl, is_li, is_lb, is_ls, is_lt, is_ll, is_ni, is_nb, is_ns, is_nt, is_nl, v_eqS, v_neS, v_inS, v_notInS, truD_n, truD_t, cap_s, cap_n, cap_b, noL_s, its_t, own_t, own_s, its_s, sv_n, sv_i, sv_s, sv_b, isStr_s, isNon_n, isNon_i, isNon_s, isNon_t, isNon_l, v_tup, forL_0, kL_nx, kL_ct, kL_bk, kL_rt, kL_ex, tg_n, tg_t, tg_0, tg_s, wp_0, wp_s, bk_0, bk_s, rd_0, rd_s, sb_a, sb_l, si_a, si_l, hd_0, out_t, out_f, argD, ite_self, List.map_cons, List.map_nil, List.append_nil, List.cons_append, List.nil_append, Bool.and_true, Bool.true_and, Bool.not_true, Bool.not_false, Bool.and_false, Bool.false_and, true_and, and_true, decide_eq_true_eq, Bool.false_eq_true, if_false, if_true, ite_true, ite_false, reduceIte, Bool.not_eq_true', Bool.true_eq_false, eq_self, ec, hg]
        exact ⟨rfl, rfl⟩
      · simp only [e_cst, e_nil, e_yes, e_var, e_fv, e_mv, e_cons, e_dfr, e_op, e_tup, e_lst, e_tr, e_notT, e_andT, e_orT, e_andV, e_orV, e_notV, e_opq, e_if, e_call, e_callM, e_chain, e_src, e_rng, e_lc, g_nx, g_retN, g_brk, g_cnt, g_seq, g_drop, g_ret, g_asg, g_if, g_for, g_app, g_set, kk_ok, kS_ok, kQ_nx, kQ_rt, kQ_bk, kQ_ct, kk_ex, kS_ex, kQ_ex, g_raise, e_isi, g_asgT, e_grd, g_try, g_tryAs, g_appT, e_chainN, lkQ_1, lkQ_2, noX_rt, noX_nx, noX_bk, noX_ct, hdQ_0, hdQ_s, tryQ_ex, tryQ_rt, tryQ_nx, tryQ_bk, tryQ_ct, tasQ_ex, tasQ_rt, tasQ_nx, tasQ_bk, tasQ_ct, has_some, sl_0, sl_s, st_0, st_s, v_add, v_sub, v_neg, v_lt, v_le, v_gt, v_ge, v_eqi, v_nei, v_is, v_isNot, v_len, v_lenT, v_abs, v_int, v_item, v_itemT, v_list, v_max, v_min, v_repr, blD_bl, truD_bl, truD_lst, isF_int, isF_bl, isF_non, isF_tup, isF_str, isF_lf, isF_lk, isF_lo, isF_ll, at_0, at_1, at_2, ix_0, ix_1, ix_2, cap_i, cap_t, noL_i, noL_n, noL_b, noL_t, ck_0, ck_s, lk_0, lk_1, lk_2, lk_3, lk_4, ln_0, ln_1, ln_2, ln_3, ln_4, own_o, own_l, own_f, its_o, its_l, its_f, lend_o, lend_i, lend_b, lend_n, lend_s, lend_t, cap_k, cap_f, lend_l, lend_f, sh_o, sh_l, sh_f, sh_k, Bool.or_true, Bool.true_or, Bool.or_false, Bool.false_or, intD, isLst, lstO, List.set_cons_zero, List.set_cons_succ, bind_S, ty_i, ty_b, ty_s, ty_t, ty_l, ty_n, is_ii, is_ib, is_is, is_it, is_il, is_bi, is_bb, is_bs, is_bt, is_bl, is_si, is_sb, is_ss, is_st, is_sl, is_ti, is_tb, is_ts, is_tt, is_tl, is_li, is_lb, is_ls, is_lt, is_ll, is_ni, is_nb, is_ns, is_nt, is_nl, v_eqS, v_neS, v_inS, v_notInS, truD_n, truD_t, cap_s, cap_n, cap_b, noL_s, its_t, own_t, own_s, its_s, sv_n, sv_i, sv_s, sv_b, isStr_s, isNon_n, isNon_i, isNon_s, isNon_t, isNon_l, v_tup, forL_0, kL_nx, kL_ct, kL_bk, kL_rt, kL_ex, tg_n, tg_t, tg_0, tg_s, wp_0, wp_s, bk_0, bk_s, rd_0, rd_s, sb_a, sb_l, si_a, si_l, hd_0, out_t, out_f, argD, ite_self, List.map_cons, List.map_nil, List.append_nil, List.cons_append, List.nil_append, Bool.and_true, Bool.true_and, Bool.not_true, Bool.not_false, Bool.and_false, Bool.false_and, true_and, and_true, decide_eq_true_eq, Bool.false_eq_true, if_false, if_true, ite_true, ite_false, reduceIte, Bool.not_eq_true', Bool.true_eq_false, eq_self, ec, Bool.eq_false_iff.mpr hg]
        rfl
theorem exm_11 : exm 1 1 = true := rfl
theorem exm_12 : exm 1 2 = false := rfl
theorem exm_20 : exm 2 0 = true := rfl
theorem exm_22 : exm 2 2 = true := rfl
theorem parts_12 : ∀ {ps : List (List Nat)} {c : Nat}, partsP ps = .inl c → c = 1 ∨ c = 2
  | [], c, h => by cases h
  | p :: r, c, h => by
    rw [partsP] at h
    cases h1 : partP p with
    | inl d =>
      rw [h1] at h
      cases h
      unfold partP at h1
      split at h1
      · split at h1
        · cases h1; exact .inl rfl
        · split at h1
          · cases h1; exact .inl rfl
          · cases h1
      · cases h1; exact .inr rfl
    | inr q =>
      rw [h1] at h
      simp only at h
      cases h2 : partsP r with
      | inl d => rw [h2] at h; cases h; exact parts_12 h2
      | inr t => rw [h2] at h; cases h
theorem ok_lread (w : List Nat) (hw : w.length ≤ 10000) : F__law_read [.str (S w)] = some (.ok (dueD .o w), [none]) := by
  unfold F__law_read
  refine fn_go rfl ?_
  show Go ev__law_read [some (.str (S w))] _
  have ep := ok_parse w hw
  have n1 : (1 < 3) = True := by simp
  have n2 : (2 < 3) = True := by simp
  unfold ev__law_read dueD
  by_cases h : w = [45]
  · rw [if_pos h] at ep ⊢
    simp only [e_cst, e_nil, e_yes, e_var, e_fv, e_mv, e_cons, e_dfr, e_op, e_tup, e_lst, e_tr, e_notT, e_andT, e_orT, e_andV, e_orV, e_notV, e_opq, e_if, e_call, e_callM, e_chain, e_src, e_rng, e_lc, g_nx, g_retN, g_brk, g_cnt, g_seq, g_drop, g_ret, g_asg, g_if, g_for, g_app, g_set, kk_ok, kS_ok, kQ_nx, kQ_rt, kQ_bk, kQ_ct, kk_ex, kS_ex, kQ_ex, g_raise, e_isi, g_asgT, e_grd, g_try, g_tryAs, g_appT, e_chainN, lkQ_1, lkQ_2, noX_rt, noX_nx, noX_bk, noX_ct, hdQ_0, hdQ_s, tryQ_ex, tryQ_rt, tryQ_nx, tryQ_bk, tryQ_ct, tasQ_ex, tasQ_rt, tasQ_nx, tasQ_bk, tasQ_ct, has_some, sl_0, sl_s, st_0, st_s, v_add, v_sub, v_neg, v_lt, v_le, v_gt, v_ge, v_eqi, v_nei, v_is, v_isNot, v_len, v_lenT, v_abs, v_int, v_item, v_itemT, v_list, v_max, v_min, v_repr, blD_bl, truD_bl, truD_lst, isF_int, isF_bl, isF_non, isF_tup, isF_str, isF_lf, isF_lk, isF_lo, isF_ll, at_0, at_1, at_2, ix_0, ix_1, ix_2, cap_i, cap_t, noL_i, noL_n, noL_b, noL_t, ck_0, ck_s, lk_0, lk_1, lk_2, lk_3, lk_4, ln_0, ln_1, ln_2, ln_3, ln_4, own_o, own_l, own_f, its_o, its_l, its_f, lend_o, lend_i, lend_b, lend_n, lend_s, lend_t, cap_k, cap_f, lend_l, lend_f, sh_o, sh_l, sh_f, sh_k, Bool.or_true, Bool.true_or, Bool.or_false, Bool.false_or, intD, isLst, lstO, List.set_cons_zero, List.set_cons_succ, bind_S, ty_i, ty_b, ty_s, ty_t, ty_l, ty_n, is_ii, is_ib, is_is, is_it, is_il, is_bi, is_bb, is_bs, is_bt, is_bl, is_si, is_sb, is_ss, is_st, is_sl, is_ti, is_tb, is_ts, is_tt, is_tl, is_li, is_lb, is_ls, is_lt, is_ll, is_ni, is_nb, is_ns, is_nt, is_nl, v_eqS, v_neS, v_inS, v_notInS, truD_n, truD_t, cap_s, cap_n, cap_b, noL_s, its_t, own_t, own_s, its_s, sv_n, sv_i, sv_s, sv_b, isStr_s, isNon_n, isNon_i, isNon_s, isNon_t, isNon_l, v_tup, forL_0, kL_nx, kL_ct, kL_bk, kL_rt, kL_ex, tg_n, tg_t, tg_0, tg_s, wp_0, wp_s, bk_0, bk_s, rd_0, rd_s, sb_a, sb_l, si_a, si_l, hd_0, out_t, out_f, argD, ite_self, List.map_cons, List.map_nil, List.append_nil, List.cons_append, List.nil_append, Bool.and_true, Bool.true_and, Bool.not_true, Bool.not_false, Bool.and_false, Bool.false_and, true_and, and_true, decide_eq_true_eq, Bool.false_eq_true, if_false, if_true, ite_true, ite_false, reduceIte, Bool.not_eq_true', Bool.true_eq_false, eq_self, ep]
    rfl
  · rw [if_neg h] at ep ⊢
    cases h3 : partsP (TL.spl [44] 0 [] w) with
    | inl c =>
      rw [h3] at ep
      rcases parts_12 h3 with rfl | rfl
      · simp only [e_cst, e_nil, e_yes, e_var, e_fv, e_mv, e_cons, e_dfr, e_op, e_tup, e_lst, e_tr, e_notT, e_andT, e_orT, e_andV, e_orV, e_notV, e_opq, e_if, e_call, e_callM, e_chain, e_src, e_rng, e_lc, g_nx, g_retN, g_brk, g_cnt, g_seq, g_drop, g_ret, g_asg, g_if, g_for, g_app, g_set, kk_ok, kS_ok, kQ_nx, kQ_rt, kQ_bk, kQ_ct, kk_ex, kS_ex, kQ_ex, g_raise, e_isi, g_asgT, e_grd, g_try, g_tryAs, g_appT, e_chainN, lkQ_1, lkQ_2, noX_rt, noX_nx, noX_bk, noX_ct, hdQ_0, hdQ_s, tryQ_ex, tryQ_rt, tryQ_nx, tryQ_bk, tryQ_ct, tasQ_ex, tasQ_rt, tasQ_nx, tasQ_bk, tasQ_ct, has_some, sl_0, sl_s, st_0, st_s, v_add, v_sub, v_neg, v_lt, v_le, v_gt, v_ge, v_eqi, v_nei, v_is, v_isNot, v_len, v_lenT, v_abs, v_int, v_item, v_itemT, v_list, v_max, v_min, v_repr, blD_bl, truD_bl, truD_lst, isF_int, isF_bl, isF_non, isF_tup, isF_str, isF_lf, isF_lk, isF_lo, isF_ll, at_0, at_1, at_2, ix_0, ix_1, ix_2, cap_i, cap_t, noL_i, noL_n, noL_b, noL_t, ck_0, ck_s, lk_0, lk_1, lk_2, lk_3, lk_4, ln_0, ln_1, ln_2, ln_3, ln_4, own_o, own_l, own_f, its_o, its_l, its_f, lend_o, lend_i, lend_b, lend_n, lend_s, lend_t, cap_k, cap_f, lend_l, lend_f, sh_o, sh_l, sh_f, sh_k, Bool.or_true, Bool.true_or, Bool.or_false, Bool.false_or, intD, isLst, lstO, List.set_cons_zero, List.set_cons_succ, bind_S, ty_i, ty_b, ty_s, ty_t, ty_l, ty_n, is_ii, is_ib, is_is, is_it, is_il, is_bi, is_bb, is_bs, is_bt, is_bl, is_si, is_sb, is_ss, is_st, is_sl, is_ti, is_tb, is_ts, is_tt, is_tl, is_li, is_lb, is_ls, is_lt, is_ll, is_ni, is_nb, is_ns, is_nt, is_nl, v_eqS, v_neS, v_inS, v_notInS, truD_n, truD_t, cap_s, cap_n, cap_b, noL_s, its_t, own_t, own_s, its_s, sv_n, sv_i, sv_s, sv_b, isStr_s, isNon_n, isNon_i, isNon_s, isNon_t, isNon_l, v_tup, forL_0, kL_nx, kL_ct, kL_bk, kL_rt, kL_ex, tg_n, tg_t, tg_0, tg_s, wp_0, wp_s, bk_0, bk_s, rd_0, rd_s, sb_a, sb_l, si_a, si_l, hd_0, out_t, out_f, argD, ite_self, List.map_cons, List.map_nil, List.append_nil, List.cons_append, List.nil_append, Bool.and_true, Bool.true_and, Bool.not_true, Bool.not_false, Bool.and_false, Bool.false_and, true_and, and_true, decide_eq_true_eq, Bool.false_eq_true, if_false, if_true, ite_true, ite_false, reduceIte, Bool.not_eq_true', Bool.true_eq_false, eq_self, ep, n1, exm_12, exm_11]
        rfl
      · simp only [e_cst, e_nil, e_yes, e_var, e_fv, e_mv, e_cons, e_dfr, e_op, e_tup, e_lst, e_tr, e_notT, e_andT, e_orT, e_andV, e_orV, e_notV, e_opq, e_if, e_call, e_callM, e_chain, e_src, e_rng, e_lc, g_nx, g_retN, g_brk, g_cnt, g_seq, g_drop, g_ret, g_asg, g_if, g_for, g_app, g_set, kk_ok, kS_ok, kQ_nx, kQ_rt, kQ_bk, kQ_ct, kk_ex, kS_ex, kQ_ex, g_raise, e_isi, g_asgT, e_grd, g_try, g_tryAs, g_appT, e_chainN, lkQ_1, lkQ_2, noX_rt, noX_nx, noX_bk, noX_ct, hdQ_0, hdQ_s, tryQ_ex, tryQ_rt, tryQ_nx, tryQ_bk, tryQ_ct, tasQ_ex, tasQ_rt, tasQ_nx, tasQ_bk, tasQ_ct, has_some, sl_0, sl_s, st_0, st_s, v_add, v_sub, v_neg, v_lt, v_le, v_gt, v_ge, v_eqi, v_nei, v_is, v_isNot, v_len, v_lenT, v_abs, v_int, v_item, v_itemT, v_list, v_max, v_min, v_repr, blD_bl, truD_bl, truD_lst, isF_int, isF_bl, isF_non, isF_tup, isF_str, isF_lf, isF_lk, isF_lo, isF_ll, at_0, at_1, at_2, ix_0, ix_1, ix_2, cap_i, cap_t, noL_i, noL_n, noL_b, noL_t, ck_0, ck_s, lk_0, lk_1, lk_2, lk_3, lk_4, ln_0, ln_1, ln_2, ln_3, ln_4, own_o, own_l, own_f, its_o, its_l, its_f, lend_o, lend_i, lend_b, lend_n, lend_s, lend_t, cap_k, cap_f, lend_l, lend_f, sh_o, sh_l, sh_f, sh_k, Bool.or_true, Bool.true_or, Bool.or_false, Bool.false_or, intD, isLst, lstO, List.set_cons_zero, List.set_cons_succ, bind_S, ty_i, ty_b, ty_s, ty_t, ty_l, ty_n, is_ii, is_ib, is_is, is_it, is_il, is_bi, is_bb, is_bs, is_bt, is_bl, is_si, is_sb, is_ss, is_st, is_sl, is_ti, is_tb, is_ts, is_tt, is_tl, is_li, is_lb, is_ls, is_lt, is_ll, is_ni, is_nb, is_ns, is_nt, is_nl, v_eqS, v_neS, v_inS, v_notInS, truD_n, truD_t, cap_s, cap_n, cap_b, noL_s, its_t, own_t, own_s, its_s, sv_n, sv_i, sv_s, sv_b, isStr_s, isNon_n, isNon_i, isNon_s, isNon_t, isNon_l, v_tup, forL_0, kL_nx, kL_ct, kL_bk, kL_rt, kL_ex, tg_n, tg_t, tg_0, tg_s, wp_0, wp_s, bk_0, bk_s, rd_0, rd_s, sb_a, sb_l, si_a, si_l, hd_0, out_t, out_f, argD, ite_self, List.map_cons, List.map_nil, List.append_nil, List.cons_append, List.nil_append, Bool.and_true, Bool.true_and, Bool.not_true, Bool.not_false, Bool.and_false, Bool.false_and, true_and, and_true, decide_eq_true_eq, Bool.false_eq_true, if_false, if_true, ite_true, ite_false, reduceIte, Bool.not_eq_true', Bool.true_eq_false, eq_self, ep, n2, exm_22]
        rfl
    | inr s =>
      rw [h3] at ep
      by_cases hg : goodR (s.map two') = true
      · simp only [hg, if_true] at ep
        simp only [e_cst, e_nil, e_yes, e_var, e_fv, e_mv, e_cons, e_dfr, e_op, e_tup, e_lst, e_tr, e_notT, e_andT, e_orT, e_andV, e_orV, e_notV, e_opq, e_if, e_call, e_callM, e_chain, e_src, e_rng, e_lc, g_nx, g_retN, g_brk, g_cnt, g_seq, g_drop, g_ret, g_asg, g_if, g_for, g_app, g_set, kk_ok, kS_ok, kQ_nx, kQ_rt, kQ_bk, kQ_ct, kk_ex, kS_ex, kQ_ex, g_raise, e_isi, g_asgT, e_grd, g_try, g_tryAs, g_appT, e_chainN, lkQ_1, lkQ_2, noX_rt, noX_nx, noX_bk, noX_ct, hdQ_0, hdQ_s, tryQ_ex, tryQ_rt, tryQ_nx, tryQ_bk, tryQ_ct, tasQ_ex, tasQ_rt, tasQ_nx, tasQ_bk, tasQ_ct, has_some, sl_0, sl_s, st_0, st_s, v_add, v_sub, v_neg, v_lt, v_le, v_gt, v_ge, v_eqi, v_nei, v_is, v_isNot, v_len, v_lenT, v_abs, v_int, v_item, v_itemT, v_list, v_max, v_min, v_repr, blD_bl, truD_bl, truD_lst, isF_int, isF_bl, isF_non, isF_tup, isF_str, isF_lf, isF_lk, isF_lo, isF_ll, at_0, at_1, at_2, ix_0, ix_1, ix_2, cap_i, cap_t, noL_i, noL_n, noL_b, noL_t, ck_0, ck_s, lk_0, lk_1, lk_2, lk_3, lk_4, ln_0, ln_1, ln_2, ln_3, ln_4, own_o, own_l, own_f, its_o, its_l, its_f, lend_o, lend_i, lend_b, lend_n, lend_s, lend_t, cap_k, cap_f, lend_l, lend_f, sh_o, sh_l, sh_f, sh_k, Bool.or_true, Bool.true_or, Bool.or_false, Bool.false_or, intD, isLst, lstO, List.set_cons_zero, List.set_cons_succ, bind_S, ty_i, ty_b, ty_s, ty_t, ty_l, ty_n, is_ii, is_ib, is_is, is_it, is_il, is_bi, is_bb, is_bs, is_bt, is_bl, is_si, is_sb, is_ss, is_st, is_sl, is_ti, is_tb, is_ts, is_tt, is_tl, is_li, is_lb, is_ls, is_lt, is_ll, is_ni, is_nb, is_ns, is_nt, is_nl, v_eqS, v_neS, v_inS, v_notInS, truD_n, truD_t, cap_s, cap_n, cap_b, noL_s, its_t, own_t, own_s, its_s, sv_n, sv_i, sv_s, sv_b, isStr_s, isNon_n, isNon_i, isNon_s, isNon_t, isNon_l, v_tup, forL_0, kL_nx, kL_ct, kL_bk, kL_rt, kL_ex, tg_n, tg_t, tg_0, tg_s, wp_0, wp_s, bk_0, bk_s, rd_0, rd_s, sb_a, sb_l, si_a, si_l, hd_0, out_t, out_f, argD, ite_self, List.map_cons, List.map_nil, List.append_nil, List.cons_append, List.nil_append, Bool.and_true, Bool.true_and, Bool.not_true, Bool.not_false, Bool.and_false, Bool.false_and, true_and, and_true, decide_eq_true_eq, Bool.false_eq_true, if_false, if_true, ite_true, ite_false, reduceIte, Bool.not_eq_true', Bool.true_eq_false, eq_self, ep, hg]
        rfl
      · simp only [hg, if_false] at ep
        simp only [e_cst, e_nil, e_yes, e_var, e_fv, e_mv, e_cons, e_dfr, e_op, e_tup, e_lst, e_tr, e_notT, e_andT, e_orT, e_andV, e_orV, e_notV, e_opq, e_if, e_call, e_callM, e_chain, e_src, e_rng, e_lc, g_nx, g_retN, g_brk, g_cnt, g_seq, g_drop, g_ret, g_asg, g_if, g_for, g_app, g_set, kk_ok, kS_ok, kQ_nx, kQ_rt, kQ_bk, kQ_ct, kk_ex, kS_ex, kQ_ex, g_raise, e_isi, g_asgT, e_grd, g_try, g_tryAs, g_appT, e_chainN, lkQ_1, lkQ_2, noX_rt, noX_nx, noX_bk, noX_ct, hdQ_0, hdQ_s, tryQ_ex, tryQ_rt, tryQ_nx, tryQ_bk, tryQ_ct, tasQ_ex, tasQ_rt, tasQ_nx, tasQ_bk, tasQ_ct, has_some, sl_0, sl_s, st_0, st_s, v_add, v_sub, v_neg, v_lt, v_le, v_gt, v_ge, v_eqi, v_nei, v_is, v_isNot, v_len, v_lenT, v_abs, v_int, v_item, v_itemT, v_list, v_max, v_min, v_repr, blD_bl, truD_bl, truD_lst, isF_int, isF_bl, isF_non, isF_tup, isF_str, isF_lf, isF_lk, isF_lo, isF_ll, at_0, at_1, at_2, ix_0, ix_1, ix_2, cap_i, cap_t, noL_i, noL_n, noL_b, noL_t, ck_0, ck_s, lk_0, lk_1, lk_2, lk_3, lk_4, ln_0, ln_1, ln_2, ln_3, ln_4, own_o, own_l, own_f, its_o, its_l, its_f, lend_o, lend_i, lend_b, lend_n, lend_s, lend_t, cap_k, cap_f, lend_l, lend_f, sh_o, sh_l, sh_f, sh_k, Bool.or_true, Bool.true_or, Bool.or_false, Bool.false_or, intD, isLst, lstO, List.set_cons_zero, List.set_cons_succ, bind_S, ty_i, ty_b, ty_s, ty_t, ty_l, ty_n, is_ii, is_ib, is_is, is_it, is_il, is_bi, is_bb, is_bs, is_bt, is_bl, is_si, is_sb, is_ss, is_st, is_sl, is_ti, is_tb, is_ts, is_tt, is_tl, is_li, is_lb, is_ls, is_lt, is_ll, is_ni, is_nb, is_ns, is_nt, is_nl, v_eqS, v_neS, v_inS, v_notInS, truD_n, truD_t, cap_s, cap_n, cap_b, noL_s, its_t, own_t, own_s, its_s, sv_n, sv_i, sv_s, sv_b, isStr_s, isNon_n, isNon_i, isNon_s, isNon_t, isNon_l, v_tup, forL_0, kL_nx, kL_ct, kL_bk, kL_rt, kL_ex, tg_n, tg_t, tg_0, tg_s, wp_0, wp_s, bk_0, bk_s, rd_0, rd_s, sb_a, sb_l, si_a, si_l, hd_0, out_t, out_f, argD, ite_self, List.map_cons, List.map_nil, List.append_nil, List.cons_append, List.nil_append, Bool.and_true, Bool.true_and, Bool.not_true, Bool.not_false, Bool.and_false, Bool.false_and, true_and, and_true, decide_eq_true_eq, Bool.false_eq_true, if_false, if_true, ite_true, ite_false, reduceIte, Bool.not_eq_true', Bool.true_eq_false, eq_self, ep, Bool.eq_false_iff.mpr hg, n2, exm_22]
        rfl
theorem fx_2 : (xIf (xVal (xIs exm 0)) (xCst (.non)) (xCst (.str (Str.ofString "other")))) 2 = some .non := rfl
theorem ok_lchk {d : D} {xs : List Row} (hd : Sq d (xs.map enc)) (hl : xs.length ≤ 100000) : F__law_checked [d] = some (.ok (if goodR xs = true then rwD .o xs else .non), [none]) := by
  unfold F__law_checked
  refine fn_go rfl ?_
  show Go ev__law_checked [some d, none] _
  have ec := ok_checked hd hl
  have n2 : (2 < 3) = True := by simp
  unfold ev__law_checked
  by_cases hg : goodR xs = true
  · simp only [hg, if_true] at ec
    simp only [e_cst, e_nil, e_yes, e_var, e_fv, e_mv, e_cons, e_dfr, e_op, e_tup, e_lst, e_tr, e_notT, e_andT, e_orT, e_andV, e_orV, e_notV, e_opq, e_if, e_call, e_callM, e_chain, e_src, e_rng, e_lc, g_nx, g_retN, g_brk, g_cnt, g_seq, g_drop, g_ret, g_asg, g_if, g_for, g_app, g_set, kk_ok, kS_ok, kQ_nx, kQ_rt, kQ_bk, kQ_ct, kk_ex, kS_ex, kQ_ex, g_raise, e_isi, g_asgT, e_grd, g_try, g_tryAs, g_appT, e_chainN, lkQ_1, lkQ_2, noX_rt, noX_nx, noX_bk, noX_ct, hdQ_0, hdQ_s, tryQ_ex, tryQ_rt, tryQ_nx, tryQ_bk, tryQ_ct, tasQ_ex, tasQ_rt, tasQ_nx, tasQ_bk, tasQ_ct, has_some, sl_0, sl_s, st_0, st_s, v_add, v_sub, v_neg, v_lt, v_le, v_gt, v_ge, v_eqi, v_nei, v_is, v_isNot, v_len, v_lenT, v_abs, v_int, v_item, v_itemT, v_list, v_max, v_min, v_repr, blD_bl, truD_bl, truD_lst, isF_int, isF_bl, isF_non, isF_tup, isF_str, isF_lf, isF_lk, isF_lo, isF_ll, at_0, at_1, at_2, ix_0, ix_1, ix_2, cap_i, cap_t, noL_i, noL_n, noL_b, noL_t, ck_0, ck_s, lk_0, lk_1, lk_2, lk_3, lk_4, ln_0, ln_1, ln_2, ln_3, ln_4, own_o, own_l, own_f, its_o, its_l, its_f, lend_o, lend_i, lend_b, lend_n, lend_s, lend_t, cap_k, cap_f, lend_l, lend_f, sh_o, sh_l, sh_f, sh_k, Bool.or_true, Bool.true_or, Bool.or_false, Bool.false_or, intD, isLst, lstO, List.set_cons_zero, List.set_cons_succ, bind_S, ty_i, ty_b, ty_s, ty_t, ty_l, ty_n, is_ii, is_ib, is_is, is_it, is_il, is_bi, is_bb, is_bs, is_bt, is_bl, is_si, is_sb, is_ss, is_st, is_sl, is_ti, is_tb, is_ts, is_tt, is_tl, is_li, is_lb, is_ls, is_lt, is_ll, is_ni, is_nb, is_ns, is_nt, is_nl, v_eqS, v_neS, v_inS, v_notInS, truD_n, truD_t, cap_s, cap_n, cap_b, noL_s, its_t, own_t, own_s, its_s, sv_n, sv_i, sv_s, sv_b, isStr_s, isNon_n, isNon_i, isNon_s, isNon_t, isNon_l, v_tup, forL_0, kL_nx, kL_ct, kL_bk, kL_rt, kL_ex, tg_n, tg_t, tg_0, tg_s, wp_0, wp_s, bk_0, bk_s, rd_0, rd_s, sb_a, sb_l, si_a, si_l, hd_0, out_t, out_f, argD, ite_self, List.map_cons, List.map_nil, List.append_nil, List.cons_append, List.nil_append, Bool.and_true, Bool.true_and, Bool.not_true, Bool.not_false, Bool.and_false, Bool.false_and, true_and, and_true, decide_eq_true_eq, Bool.false_eq_true, if_false, if_true, ite_true, ite_false, reduceIte, Bool.not_eq_true', Bool.true_eq_false, eq_self, hd.lnd, ec, hg]
    rfl
  · simp only [hg, if_false] at ec
    simp only [e_cst, e_nil, e_yes, e_var, e_fv, e_mv, e_cons, e_dfr, e_op, e_tup, e_lst, e_tr, e_notT, e_andT, e_orT, e_andV, e_orV, e_notV, e_opq, e_if, e_call, e_callM, e_chain, e_src, e_rng, e_lc, g_nx, g_retN, g_brk, g_cnt, g_seq, g_drop, g_ret, g_asg, g_if, g_for, g_app, g_set, kk_ok, kS_ok, kQ_nx, kQ_rt, kQ_bk, kQ_ct, kk_ex, kS_ex, kQ_ex, g_raise, e_isi, g_asgT, e_grd, g_try, g_tryAs, g_appT, e_chainN, lkQ_1, lkQ_2, noX_rt, noX_nx, noX_bk, noX_ct, hdQ_0, hdQ_s, tryQ_ex, tryQ_rt, tryQ_nx, tryQ_bk, tryQ_ct, tasQ_ex, tasQ_rt, tasQ_nx, tasQ_bk, tasQ_ct, has_some, sl_0, sl_s, st_0, st_s, v_add, v_sub, v_neg, v_lt, v_le, v_gt, v_ge, v_eqi, v_nei, v_is, v_isNot, v_len, v_lenT, v_abs, v_int, v_item, v_itemT, v_list, v_max, v_min, v_repr, blD_bl, truD_bl, truD_lst, isF_int, isF_bl, isF_non, isF_tup, isF_str, isF_lf, isF_lk, isF_lo, isF_ll, at_0, at_1, at_2, ix_0, ix_1, ix_2, cap_i, cap_t, noL_i, noL_n, noL_b, noL_t, ck_0, ck_s, lk_0, lk_1, lk_2, lk_3, lk_4, ln_0, ln_1, ln_2, ln_3, ln_4, own_o, own_l, own_f, its_o, its_l, its_f, lend_o, lend_i, lend_b, lend_n, lend_s, lend_t, cap_k, cap_f, lend_l, lend_f, sh_o, sh_l, sh_f, sh_k, Bool.or_true, Bool.true_or, Bool.or_false, Bool.false_or, intD, isLst, lstO, List.set_cons_zero, List.set_cons_succ, bind_S, ty_i, ty_b, ty_s, ty_t, ty_l, ty_n, is_ii, is_ib, is_is, is_it, is_il, is_bi, is_bb, is_bs, is_bt, is_bl, is_si, is_sb, is_ss, is_st, is_sl, is_ti, is_tb, is_ts, is_tt, is_tl, is_li, is_lb, is_ls, is_lt, is_ll, is_ni, is_nb, is_ns, is_nt, is_nl, v_eqS, v_neS, v_inS, v_notInS, truD_n, truD_t, cap_s, cap_n, cap_b, noL_s, its_t, own_t, own_s, its_s, sv_n, sv_i, sv_s, sv_b, isStr_s, isNon_n, isNon_i, isNon_s, isNon_t, isNon_l, v_tup, forL_0, kL_nx, kL_ct, kL_bk, kL_rt, kL_ex, tg_n, tg_t, tg_0, tg_s, wp_0, wp_s, bk_0, bk_s, rd_0, rd_s, sb_a, sb_l, si_a, si_l, hd_0, out_t, out_f, argD, ite_self, List.map_cons, List.map_nil, List.append_nil, List.cons_append, List.nil_append, Bool.and_true, Bool.true_and, Bool.not_true, Bool.not_false, Bool.and_false, Bool.false_and, true_and, and_true, decide_eq_true_eq, Bool.false_eq_true, if_false, if_true, ite_true, ite_false, reduceIte, Bool.not_eq_true', Bool.true_eq_false, eq_self, hd.lnd, ec, Bool.eq_false_iff.mpr hg, n2, exm_22, fx_2, List.isEmpty_nil]
    rfl
end K12
namespace K12
open PySem PD SX
/-! spans as a text -/
def item (q : Int × Int) : List Nat := TL.numL q.1.toNat ++ ([45] ++ TL.numL q.2.toNat)
def txt (s : Sp) : List Nat := if s = [] then [45] else TL.joinL [44] (s.map item)
def Ok (s : Sp) : Prop := s.length ≤ 60 ∧ ∀ q ∈ s, 0 ≤ q.1 ∧ q.1 ≤ 20000 ∧ 0 ≤ q.2 ∧ q.2 ≤ 20000
theorem numL_head : ∀ n : Nat, 1 ≤ n → (TL.numL n).head? ≠ some 48 := by
  intro n
  induction n using Nat.strongRecOn with
  | _ n ih =>
    intro h
    by_cases h10 : n < 10
    · rw [TL.numL_lt h10]
      simp
      omega
    · rw [TL.numL_step (by omega)]
      have := ih (n / 10) (by omega) (by omega)
      cases e : TL.numL (n / 10) with
      | nil => exact absurd e (TL.numL_ne _)
      | cons c r => rw [e] at this; simpa using this
theorem read_num {n : Nat} (h : n ≤ 1000000) : readL (TL.numL n) = some (n : Int) := by
  have l7 : (TL.numL n).length ≤ 7 := TL.numL_len (by decide) (by omega)
  have l1 : 1 ≤ (TL.numL n).length := List.length_pos_iff.mpr (TL.numL_ne n)
  have d : (TL.numL n).all dig = true := by
    rw [List.all_eq_true]
    intro c hc
    have := TL.numL_digits n c hc
    simp [dig, this]
  have v : val (TL.numL n) = n := by unfold val; rw [TL.numL_val]
  have z : (decide (1 < (TL.numL n).length) && decide ((TL.numL n).head? = some 48)) = false := by
    by_cases h0 : n = 0
    · subst h0; rw [TL.numL_lt (by omega)]; rfl
    · rw [decide_eq_false (numL_head n (by omega)), Bool.and_false]
  unfold readL okZ
  rw [decide_eq_true l1, decide_eq_true l7, d, z, v]
  simp only [Bool.true_and, Bool.not_false, if_true]
  rw [if_pos (by omega)]
theorem item_free (q : Int × Int) : (44 : Nat) ∉ item q := by
  unfold item
  intro h
  rcases List.mem_append.mp h with h | h
  · exact TL.numL_free (by omega) h
  · rcases List.mem_append.mp h with h | h
    · simp at h
    · exact TL.numL_free (by omega) h
theorem item_spl (q : Int × Int) : TL.spl [45] 0 [] (item q) = [TL.numL q.1.toNat, TL.numL q.2.toNat] := by
  unfold item
  have h1 : (45 : Nat) ∉ TL.numL q.1.toNat := TL.numL_free (by omega)
  have h2 : (45 : Nat) ∉ TL.numL q.2.toNat := TL.numL_free (by omega)
  rw [TL.spl_part1 h1, TL.spl_last1 h2]
  rfl
theorem part_item {q : Int × Int} (h : 0 ≤ q.1 ∧ q.1 ≤ 20000 ∧ 0 ≤ q.2 ∧ q.2 ≤ 20000) : partP (item q) = .inr q := by
  unfold partP
  rw [item_spl]
  simp only
  rw [read_num (by omega)]
  simp only
  rw [read_num (by omega)]
  simp only
  obtain ⟨a, b⟩ := q
  simp only at h ⊢
  rw [Int.toNat_of_nonneg (by omega), Int.toNat_of_nonneg (by omega)]
theorem parts_item : ∀ {s : Sp}, (∀ q ∈ s, 0 ≤ q.1 ∧ q.1 ≤ 20000 ∧ 0 ≤ q.2 ∧ q.2 ≤ 20000) → partsP (s.map item) = .inr s
  | [], _ => rfl
  | q :: r, h => by
    rw [List.map_cons, partsP, part_item (h q List.mem_cons_self)]
    simp only
    rw [parts_item fun p hp => h p (List.mem_cons_of_mem _ hp)]
theorem item_len {q : Int × Int} (h : 0 ≤ q.1 ∧ q.1 ≤ 20000 ∧ 0 ≤ q.2 ∧ q.2 ≤ 20000) : (item q).length ≤ 11 := by
  have h1 : (TL.numL q.1.toNat).length ≤ 5 := TL.numL_len (by decide) (by omega)
  have h2 : (TL.numL q.2.toNat).length ≤ 5 := TL.numL_len (by decide) (by omega)
  unfold item
  simp
  omega
theorem join_len {c : List Nat} {n : Nat} : ∀ {ps : List (List Nat)}, (∀ p ∈ ps, p.length ≤ n) → (TL.joinL c ps).length ≤ ps.length * (n + c.length)
  | [], _ => by simp [TL.joinL]
  | [p], h => by
    have := h p (by simp)
    simp [TL.joinL]; omega
  | p :: q :: r, h => by
    have := h p (by simp)
    have ih := join_len (c := c) (n := n) (ps := q :: r) fun p hp => h p (List.mem_cons_of_mem _ hp)
    rw [TL.joinL, List.length_append, List.length_append, List.length_cons, Nat.succ_mul]
    omega
theorem txt_len {s : Sp} (h : Ok s) : (txt s).length ≤ 10000 := by
  unfold txt
  by_cases e : s = []
  · rw [if_pos e]; simp
  · rw [if_neg e]
    have := join_len (c := [44]) (n := 11) (ps := s.map item) fun p hp => by
      obtain ⟨q, hq, rfl⟩ := List.mem_map.mp hp
      exact item_len (h.2 q hq)
    rw [List.length_map] at this
    have := h.1
    have : s.length * (11 + [44].length) ≤ 60 * 12 := Nat.mul_le_mul this (by simp)
    omega
theorem txt_spl {s : Sp} (hs : s ≠ []) : TL.spl [44] 0 [] (txt s) = s.map item := by
  unfold txt
  rw [if_neg hs]
  exact TL.spl_join (by simpa using hs) fun p hp => by
    obtain ⟨q, hq, rfl⟩ := List.mem_map.mp hp
    exact item_free q
theorem txt_ne {s : Sp} (hs : s ≠ []) : txt s ≠ [45] := by
  intro e
  have := txt_spl hs
  rw [e] at this
  cases s with
  | nil => exact hs rfl
  | cons q r =>
    have e2 : TL.spl [44] 0 [] [45] = [[45]] := by decide
    rw [e2, List.map_cons] at this
    injection this with h1 h2
    have h3 := item_spl q
    rw [← h1] at h3
    have : TL.spl [45] 0 [] [45] = [[], []] := by decide
    rw [this] at h3
    injection h3 with h3 _
    exact TL.numL_ne _ h3.symm
theorem parse_txt {s : Sp} (h : Ok s) (hg : goodR (s.map two') = true) : F_parse_spans [.str (S (txt s))] = some (.ok (spD .o s), [none]) := by
  rw [ok_parse _ (txt_len h)]
  by_cases e : s = []
  · subst e; rfl
  · rw [if_neg (txt_ne e), txt_spl e, parts_item h.2]
    simp only [hg, if_true]
theorem str_num {i : Int} (h : 0 ≤ i) (h2 : i ≤ 20000) : gStrOf [.int i] = some (.str (S (TL.numL i.toNat))) := by
  rw [v_strI (by omega)]
  obtain ⟨n, rfl⟩ := Int.eq_ofNat_of_zero_le h
  rw [show (((n : Nat) : Int)).toNat = n from rfl]
  congr 2
  exact num_S n
theorem add_S {a b : List Nat} (h : a.length + b.length ≤ 1000) : gAdd [.str (S a), .str (S b)] = some (.str (S (a ++ b))) := by
  rw [v_addS (by rw [S_len, S_len]; omega), S_cat]
theorem numL_5 {i : Int} (h : 0 ≤ i) (h2 : i ≤ 20000) : (TL.numL i.toNat).length ≤ 5 := TL.numL_len (by decide) (by omega)
theorem strOf_st : ∀ ps : List (List Nat), strOf (ps.map stD) = some (ps.map S)
  | [] => rfl
  | p :: r => by
    rw [List.map_cons, stD, strOf, strOf_st r]
    rfl
theorem sum_len (ps : List (List Nat)) {n : Nat} (h : ∀ p ∈ ps, p.length ≤ n) : ((ps.map S).map (·.length)).sum ≤ ps.length * n := by
  induction ps with
  | nil => simp
  | cons p r ih =>
    have h1 := h p List.mem_cons_self
    have h2 := ih fun q hq => h q (List.mem_cons_of_mem _ hq)
    simp only [List.map_cons, List.sum_cons, S_len, List.length_cons, Nat.succ_mul]
    omega
theorem join_txt {s : Sp} (h : Ok s) (hs : s ≠ []) : gJoin [.str (S [44]), .lst .o ((s.map item).map stD)] = some (.str (S (txt s))) := by
  have e := strOf_st (s.map item)
  have l : ∀ p ∈ s.map item, p.length ≤ 11 := fun p hp => by
    obtain ⟨q, hq, rfl⟩ := List.mem_map.mp hp
    exact item_len (h.2 q hq)
  have := sum_len (s.map item) l
  rw [List.length_map] at this
  have h1 := h.1
  have : s.length * 11 ≤ 60 * 11 := Nat.mul_le_mul_right _ h1
  show (match strOf ((s.map item).map stD) with
    | none => none
    | some ys => if (ys.map (fun z : Str => z.length)).sum + ys.length * (S [44]).length ≤ 16777216 then some (D.str (Txt.join (S [44]) ys)) else none) = _
  rw [e]
  simp only
  rw [if_pos, join_S]
  · unfold txt
    rw [if_neg hs]
  · rw [List.length_map, List.length_map, S_len]
    simp only [List.length_singleton]
    omega
theorem cap_st (l : List Nat) : cap (stD l) = stD l := rfl
theorem emp_map {α β : Type} {f : α → β} {xs : List α} : (xs.map f).isEmpty = xs.isEmpty := by cases xs <;> rfl
theorem ok_format {m : Fl} {s : Sp} (hm : Sq (.lst m (s.map pr)) (s.map pr)) (h : Ok s) : F_format_spans [.lst m (s.map pr)] = some (.ok (.str (S (txt s))), [none]) := by
  unfold F_format_spans
  refine fn_go rfl ?_
  show Go ev_format_spans [some (.lst m (s.map pr)), none, none] _
  unfold ev_format_spans
  by_cases e : s = []
  · subst e
    simp only [e_cst, e_nil, e_yes, e_var, e_fv, e_mv, e_cons, e_dfr, e_op, e_tup, e_lst, e_tr, e_notT, e_andT, e_orT, e_andV, e_orV, e_notV, e_opq, e_if, e_call, e_callM, e_chain, e_src, e_rng, e_lc, g_nx, g_retN, g_brk, g_cnt, g_seq, g_drop, g_ret, g_asg, g_if, g_for, g_app, g_set, kk_ok, kS_ok, kQ_nx, kQ_rt, kQ_bk, kQ_ct, kk_ex, kS_ex, kQ_ex, g_raise, e_isi, g_asgT, e_grd, g_try, g_tryAs, g_appT, e_chainN, lkQ_1, lkQ_2, noX_rt, noX_nx, noX_bk, noX_ct, hdQ_0, hdQ_s, tryQ_ex, tryQ_rt, tryQ_nx, tryQ_bk, tryQ_ct, tasQ_ex, tasQ_rt, tasQ_nx, tasQ_bk, tasQ_ct, has_some, sl_0, sl_s, st_0, st_s, v_add, v_sub, v_neg, v_lt, v_le, v_gt, v_ge, v_eqi, v_nei, v_is, v_isNot, v_len, v_lenT, v_abs, v_int, v_item, v_itemT, v_list, v_max, v_min, v_repr, blD_bl, truD_bl, truD_lst, isF_int, isF_bl, isF_non, isF_tup, isF_str, isF_lf, isF_lk, isF_lo, isF_ll, at_0, at_1, at_2, ix_0, ix_1, ix_2, cap_i, cap_t, noL_i, noL_n, noL_b, noL_t, ck_0, ck_s, lk_0, lk_1, lk_2, lk_3, lk_4, ln_0, ln_1, ln_2, ln_3, ln_4, own_o, own_l, own_f, its_o, its_l, its_f, lend_o, lend_i, lend_b, lend_n, lend_s, lend_t, cap_k, cap_f, lend_l, lend_f, sh_o, sh_l, sh_f, sh_k, Bool.or_true, Bool.true_or, Bool.or_false, Bool.false_or, intD, isLst, lstO, List.set_cons_zero, List.set_cons_succ, bind_S, ty_i, ty_b, ty_s, ty_t, ty_l, ty_n, is_ii, is_ib, is_is, is_it, is_il, is_bi, is_bb, is_bs, is_bt, is_bl, is_si, is_sb, is_ss, is_st, is_sl, is_ti, is_tb, is_ts, is_tt, is_tl, is_li, is_lb, is_ls, is_lt, is_ll, is_ni, is_nb, is_ns, is_nt, is_nl, v_eqS, v_neS, v_inS, v_notInS, truD_n, truD_t, cap_s, cap_n, cap_b, noL_s, its_t, own_t, own_s, its_s, sv_n, sv_i, sv_s, sv_b, isStr_s, isNon_n, isNon_i, isNon_s, isNon_t, isNon_l, v_tup, forL_0, kL_nx, kL_ct, kL_bk, kL_rt, kL_ex, tg_n, tg_t, tg_0, tg_s, wp_0, wp_s, bk_0, bk_s, rd_0, rd_s, sb_a, sb_l, si_a, si_l, hd_0, out_t, out_f, argD, ite_self, List.map_cons, List.map_nil, List.append_nil, List.cons_append, List.nil_append, Bool.and_true, Bool.true_and, Bool.not_true, Bool.not_false, Bool.and_false, Bool.false_and, true_and, and_true, decide_eq_true_eq, Bool.false_eq_true, if_false, if_true, ite_true, ite_false, reduceIte, Bool.not_eq_true', Bool.true_eq_false, eq_self, dash, List.isEmpty_nil]
    rfl
  · have hne : s.isEmpty = false := by cases s with
      | nil => exact absurd rfl e
      | cons => rfl
    simp only [e_cst, e_nil, e_yes, e_var, e_fv, e_mv, e_cons, e_dfr, e_op, e_tup, e_lst, e_tr, e_notT, e_andT, e_orT, e_andV, e_orV, e_notV, e_opq, e_if, e_call, e_callM, e_chain, e_src, e_rng, e_lc, g_nx, g_retN, g_brk, g_cnt, g_seq, g_drop, g_ret, g_asg, g_if, g_for, g_app, g_set, kk_ok, kS_ok, kQ_nx, kQ_rt, kQ_bk, kQ_ct, kk_ex, kS_ex, kQ_ex, g_raise, e_isi, g_asgT, e_grd, g_try, g_tryAs, g_appT, e_chainN, lkQ_1, lkQ_2, noX_rt, noX_nx, noX_bk, noX_ct, hdQ_0, hdQ_s, tryQ_ex, tryQ_rt, tryQ_nx, tryQ_bk, tryQ_ct, tasQ_ex, tasQ_rt, tasQ_nx, tasQ_bk, tasQ_ct, has_some, sl_0, sl_s, st_0, st_s, v_add, v_sub, v_neg, v_lt, v_le, v_gt, v_ge, v_eqi, v_nei, v_is, v_isNot, v_len, v_lenT, v_abs, v_int, v_item, v_itemT, v_list, v_max, v_min, v_repr, blD_bl, truD_bl, truD_lst, isF_int, isF_bl, isF_non, isF_tup, isF_str, isF_lf, isF_lk, isF_lo, isF_ll, at_0, at_1, at_2, ix_0, ix_1, ix_2, cap_i, cap_t, noL_i, noL_n, noL_b, noL_t, ck_0, ck_s, lk_0, lk_1, lk_2, lk_3, lk_4, ln_0, ln_1, ln_2, ln_3, ln_4, own_o, own_l, own_f, its_o, its_l, its_f, lend_o, lend_i, lend_b, lend_n, lend_s, lend_t, cap_k, cap_f, lend_l, lend_f, sh_o, sh_l, sh_f, sh_k, Bool.or_true, Bool.true_or, Bool.or_false, Bool.false_or, intD, isLst, lstO, List.set_cons_zero, List.set_cons_succ, bind_S, ty_i, ty_b, ty_s, ty_t, ty_l, ty_n, is_ii, is_ib, is_is, is_it, is_il, is_bi, is_bb, is_bs, is_bt, is_bl, is_si, is_sb, is_ss, is_st, is_sl, is_ti, is_tb, is_ts, is_tt, is_tl, is_li, is_lb, is_ls, is_lt, is_ll, is_ni, is_nb, is_ns, is_nt, is_nl, v_eqS, v_neS, v_inS, v_notInS, truD_n, truD_t, cap_s, cap_n, cap_b, noL_s, its_t, own_t, own_s, its_s, sv_n, sv_i, sv_s, sv_b, isStr_s, isNon_n, isNon_i, isNon_s, isNon_t, isNon_l, v_tup, forL_0, kL_nx, kL_ct, kL_bk, kL_rt, kL_ex, tg_n, tg_t, tg_0, tg_s, wp_0, wp_s, bk_0, bk_s, rd_0, rd_s, sb_a, sb_l, si_a, si_l, hd_0, out_t, out_f, argD, ite_self, List.map_cons, List.map_nil, List.append_nil, List.cons_append, List.nil_append, Bool.and_true, Bool.true_and, Bool.not_true, Bool.not_false, Bool.and_false, Bool.false_and, true_and, and_true, decide_eq_true_eq, Bool.false_eq_true, if_false, if_true, ite_true, ite_false, reduceIte, Bool.not_eq_true', Bool.true_eq_false, eq_self, emp_map, hne, comma, hm.its, hm.own]
    refine has_cmpA item stD cap_st s (by have := h.1; omega) (fun q hq => ?_) ?_
    · obtain ⟨h1, h2, h3, h4⟩ := h.2 q hq
      have l1 := numL_5 h1 h2
      have l2 := numL_5 h3 h4
      simp only [pr, ct_format_spans_0, ce_format_spans_1, e_cst, e_nil, e_yes, e_var, e_fv, e_mv, e_cons, e_dfr, e_op, e_tup, e_lst, e_tr, e_notT, e_andT, e_orT, e_andV, e_orV, e_notV, e_opq, e_if, e_call, e_callM, e_chain, e_src, e_rng, e_lc, g_nx, g_retN, g_brk, g_cnt, g_seq, g_drop, g_ret, g_asg, g_if, g_for, g_app, g_set, kk_ok, kS_ok, kQ_nx, kQ_rt, kQ_bk, kQ_ct, kk_ex, kS_ex, kQ_ex, g_raise, e_isi, g_asgT, e_grd, g_try, g_tryAs, g_appT, e_chainN, lkQ_1, lkQ_2, noX_rt, noX_nx, noX_bk, noX_ct, hdQ_0, hdQ_s, tryQ_ex, tryQ_rt, tryQ_nx, tryQ_bk, tryQ_ct, tasQ_ex, tasQ_rt, tasQ_nx, tasQ_bk, tasQ_ct, has_some, sl_0, sl_s, st_0, st_s, v_add, v_sub, v_neg, v_lt, v_le, v_gt, v_ge, v_eqi, v_nei, v_is, v_isNot, v_len, v_lenT, v_abs, v_int, v_item, v_itemT, v_list, v_max, v_min, v_repr, blD_bl, truD_bl, truD_lst, isF_int, isF_bl, isF_non, isF_tup, isF_str, isF_lf, isF_lk, isF_lo, isF_ll, at_0, at_1, at_2, ix_0, ix_1, ix_2, cap_i, cap_t, noL_i, noL_n, noL_b, noL_t, ck_0, ck_s, lk_0, lk_1, lk_2, lk_3, lk_4, ln_0, ln_1, ln_2, ln_3, ln_4, own_o, own_l, own_f, its_o, its_l, its_f, lend_o, lend_i, lend_b, lend_n, lend_s, lend_t, cap_k, cap_f, lend_l, lend_f, sh_o, sh_l, sh_f, sh_k, Bool.or_true, Bool.true_or, Bool.or_false, Bool.false_or, intD, isLst, lstO, List.set_cons_zero, List.set_cons_succ, bind_S, ty_i, ty_b, ty_s, ty_t, ty_l, ty_n, is_ii, is_ib, is_is, is_it, is_il, is_bi, is_bb, is_bs, is_bt, is_bl, is_si, is_sb, is_ss, is_st, is_sl, is_ti, is_tb, is_ts, is_tt, is_tl, is_li, is_lb, is_ls, is_lt, is_ll, is_ni, is_nb, is_ns, is_nt, is_nl, v_eqS, v_neS, v_inS, v_notInS, truD_n, truD_t, cap_s, cap_n, cap_b, noL_s, its_t, own_t, own_s, its_s, sv_n, sv_i, sv_s, sv_b, isStr_s, isNon_n, isNon_i, isNon_s, isNon_t, isNon_l, v_tup, forL_0, kL_nx, kL_ct, kL_bk, kL_rt, kL_ex, tg_n, tg_t, tg_0, tg_s, wp_0, wp_s, bk_0, bk_s, rd_0, rd_s, sb_a, sb_l, si_a, si_l, hd_0, out_t, out_f, argD, ite_self, List.map_cons, List.map_nil, List.append_nil, List.cons_append, List.nil_append, Bool.and_true, Bool.true_and, Bool.not_true, Bool.not_false, Bool.and_false, Bool.false_and, true_and, and_true, decide_eq_true_eq, Bool.false_eq_true, if_false, if_true, ite_true, ite_false, reduceIte, Bool.not_eq_true', Bool.true_eq_false, eq_self, str_num h1 h2, str_num h3 h4, dash]
      rw [add_S (by simp; omega)]
      simp only [e_cst, e_nil, e_yes, e_var, e_fv, e_mv, e_cons, e_dfr, e_op, e_tup, e_lst, e_tr, e_notT, e_andT, e_orT, e_andV, e_orV, e_notV, e_opq, e_if, e_call, e_callM, e_chain, e_src, e_rng, e_lc, g_nx, g_retN, g_brk, g_cnt, g_seq, g_drop, g_ret, g_asg, g_if, g_for, g_app, g_set, kk_ok, kS_ok, kQ_nx, kQ_rt, kQ_bk, kQ_ct, kk_ex, kS_ex, kQ_ex, g_raise, e_isi, g_asgT, e_grd, g_try, g_tryAs, g_appT, e_chainN, lkQ_1, lkQ_2, noX_rt, noX_nx, noX_bk, noX_ct, hdQ_0, hdQ_s, tryQ_ex, tryQ_rt, tryQ_nx, tryQ_bk, tryQ_ct, tasQ_ex, tasQ_rt, tasQ_nx, tasQ_bk, tasQ_ct, has_some, sl_0, sl_s, st_0, st_s, v_add, v_sub, v_neg, v_lt, v_le, v_gt, v_ge, v_eqi, v_nei, v_is, v_isNot, v_len, v_lenT, v_abs, v_int, v_item, v_itemT, v_list, v_max, v_min, v_repr, blD_bl, truD_bl, truD_lst, isF_int, isF_bl, isF_non, isF_tup, isF_str, isF_lf, isF_lk, isF_lo, isF_ll, at_0, at_1, at_2, ix_0, ix_1, ix_2, cap_i, cap_t, noL_i, noL_n, noL_b, noL_t, ck_0, ck_s, lk_0, lk_1, lk_2, lk_3, lk_4, ln_0, ln_1, ln_2, ln_3, ln_4, own_o, own_l, own_f, its_o, its_l, its_f, lend_o, lend_i, lend_b, lend_n, lend_s, lend_t, cap_k, cap_f, lend_l, lend_f, sh_o, sh_l, sh_f, sh_k, Bool.or_true, Bool.true_or, Bool.or_false, Bool.false_or, intD, isLst, lstO, List.set_cons_zero, List.set_cons_succ, bind_S, ty_i, ty_b, ty_s, ty_t, ty_l, ty_n, is_ii, is_ib, is_is, is_it, is_il, is_bi, is_bb, is_bs, is_bt, is_bl, is_si, is_sb, is_ss, is_st, is_sl, is_ti, is_tb, is_ts, is_tt, is_tl, is_li, is_lb, is_ls, is_lt, is_ll, is_ni, is_nb, is_ns, is_nt, is_nl, v_eqS, v_neS, v_inS, v_notInS, truD_n, truD_t, cap_s, cap_n, cap_b, noL_s, its_t, own_t, own_s, its_s, sv_n, sv_i, sv_s, sv_b, isStr_s, isNon_n, isNon_i, isNon_s, isNon_t, isNon_l, v_tup, forL_0, kL_nx, kL_ct, kL_bk, kL_rt, kL_ex, tg_n, tg_t, tg_0, tg_s, wp_0, wp_s, bk_0, bk_s, rd_0, rd_s, sb_a, sb_l, si_a, si_l, hd_0, out_t, out_f, argD, ite_self, List.map_cons, List.map_nil, List.append_nil, List.cons_append, List.nil_append, Bool.and_true, Bool.true_and, Bool.not_true, Bool.not_false, Bool.and_false, Bool.false_and, true_and, and_true, decide_eq_true_eq, Bool.false_eq_true, if_false, if_true, ite_true, ite_false, reduceIte, Bool.not_eq_true', Bool.true_eq_false, eq_self]
      rw [add_S (by simp; omega)]
      simp only [e_cst, e_nil, e_yes, e_var, e_fv, e_mv, e_cons, e_dfr, e_op, e_tup, e_lst, e_tr, e_notT, e_andT, e_orT, e_andV, e_orV, e_notV, e_opq, e_if, e_call, e_callM, e_chain, e_src, e_rng, e_lc, g_nx, g_retN, g_brk, g_cnt, g_seq, g_drop, g_ret, g_asg, g_if, g_for, g_app, g_set, kk_ok, kS_ok, kQ_nx, kQ_rt, kQ_bk, kQ_ct, kk_ex, kS_ex, kQ_ex, g_raise, e_isi, g_asgT, e_grd, g_try, g_tryAs, g_appT, e_chainN, lkQ_1, lkQ_2, noX_rt, noX_nx, noX_bk, noX_ct, hdQ_0, hdQ_s, tryQ_ex, tryQ_rt, tryQ_nx, tryQ_bk, tryQ_ct, tasQ_ex, tasQ_rt, tasQ_nx, tasQ_bk, tasQ_ct, has_some, sl_0, sl_s, st_0, st_s, v_add, v_sub, v_neg, v_lt, v_le, v_gt, v_ge, v_eqi, v_nei, v_is, v_isNot, v_len, v_lenT, v_abs, v_int, v_item, v_itemT, v_list, v_max, v_min, v_repr, blD_bl, truD_bl, truD_lst, isF_int, isF_bl, isF_non, isF_tup, isF_str, isF_lf, isF_lk, isF_lo, isF_ll, at_0, at_1, at_2, ix_0, ix_1, ix_2, cap_i, cap_t, noL_i, noL_n, noL_b, noL_t, ck_0, ck_s, lk_0, lk_1, lk_2, lk_3, lk_4, ln_0, ln_1, ln_2, ln_3, ln_4, own_o, own_l, own_f, its_o, its_l, its_f, lend_o, lend_i, lend_b, lend_n, lend_s, lend_t, cap_k, cap_f, lend_l, lend_f, sh_o, sh_l, sh_f, sh_k, Bool.or_true, Bool.true_or, Bool.or_false, Bool.false_or, intD, isLst, lstO, List.set_cons_zero, List.set_cons_succ, bind_S, ty_i, ty_b, ty_s, ty_t, ty_l, ty_n, is_ii, is_ib, is_is, is_it, is_il, is_bi, is_bb, is_bs, is_bt, is_bl, is_si, is_sb, is_ss, is_st, is_sl, is_ti, is_tb, is_ts, is_tt, is_tl, is_li, is_lb, is_ls, is_lt, is_ll, is_ni, is_nb, is_ns, is_nt, is_nl, v_eqS, v_neS, v_inS, v_notInS, truD_n, truD_t, cap_s, cap_n, cap_b, noL_s, its_t, own_t, own_s, its_s, sv_n, sv_i, sv_s, sv_b, isStr_s, isNon_n, isNon_i, isNon_s, isNon_t, isNon_l, v_tup, forL_0, kL_nx, kL_ct, kL_bk, kL_rt, kL_ex, tg_n, tg_t, tg_0, tg_s, wp_0, wp_s, bk_0, bk_s, rd_0, rd_s, sb_a, sb_l, si_a, si_l, hd_0, out_t, out_f, argD, ite_self, List.map_cons, List.map_nil, List.append_nil, List.cons_append, List.nil_append, Bool.and_true, Bool.true_and, Bool.not_true, Bool.not_false, Bool.and_false, Bool.false_and, true_and, and_true, decide_eq_true_eq, Bool.false_eq_true, if_false, if_true, ite_true, ite_false, reduceIte, Bool.not_eq_true', Bool.true_eq_false, eq_self, List.append_assoc]
      rfl
    · simp only [e_cst, e_nil, e_yes, e_var, e_fv, e_mv, e_cons, e_dfr, e_op, e_tup, e_lst, e_tr, e_notT, e_andT, e_orT, e_andV, e_orV, e_notV, e_opq, e_if, e_call, e_callM, e_chain, e_src, e_rng, e_lc, g_nx, g_retN, g_brk, g_cnt, g_seq, g_drop, g_ret, g_asg, g_if, g_for, g_app, g_set, kk_ok, kS_ok, kQ_nx, kQ_rt, kQ_bk, kQ_ct, kk_ex, kS_ex, kQ_ex, g_raise, e_isi, g_asgT, e_grd, g_try, g_tryAs, g_appT, e_chainN, lkQ_1, lkQ_2, noX_rt, noX_nx, noX_bk, noX_ct, hdQ_0, hdQ_s, tryQ_ex, tryQ_rt, tryQ_nx, tryQ_bk, tryQ_ct, tasQ_ex, tasQ_rt, tasQ_nx, tasQ_bk, tasQ_ct, has_some, sl_0, sl_s, st_0, st_s, v_add, v_sub, v_neg, v_lt, v_le, v_gt, v_ge, v_eqi, v_nei, v_is, v_isNot, v_len, v_lenT, v_abs, v_int, v_item, v_itemT, v_list, v_max, v_min, v_repr, blD_bl, truD_bl, truD_lst, isF_int, isF_bl, isF_non, isF_tup, isF_str, isF_lf, isF_lk, isF_lo, isF_ll, at_0, at_1, at_2, ix_0, ix_1, ix_2, cap_i, cap_t, noL_i, noL_n, noL_b, noL_t, ck_0, ck_s, lk_0, lk_1, lk_2, lk_3, lk_4, ln_0, ln_1, ln_2, ln_3, ln_4, own_o, own_l, own_f, its_o, its_l, its_f, lend_o, lend_i, lend_b, lend_n, lend_s, lend_t, cap_k, cap_f, lend_l, lend_f, sh_o, sh_l, sh_f, sh_k, Bool.or_true, Bool.true_or, Bool.or_false, Bool.false_or, intD, isLst, lstO, List.set_cons_zero, List.set_cons_succ, bind_S, ty_i, ty_b, ty_s, ty_t, ty_l, ty_n, is_ii, is_ib, is_is, is_it, is_il, is_bi, is_bb, is_bs, is_bt, is_bl, is_si, is_sb, is_ss, is_st, is_sl, is_ti, is_tb, is_ts, is_tt, is_tl, is_li, is_lb, is_ls, is_lt, is_ll, is_ni, is_nb, is_ns, is_nt, is_nl, v_eqS, v_neS, v_inS, v_notInS, truD_n, truD_t, cap_s, cap_n, cap_b, noL_s, its_t, own_t, own_s, its_s, sv_n, sv_i, sv_s, sv_b, isStr_s, isNon_n, isNon_i, isNon_s, isNon_t, isNon_l, v_tup, forL_0, kL_nx, kL_ct, kL_bk, kL_rt, kL_ex, tg_n, tg_t, tg_0, tg_s, wp_0, wp_s, bk_0, bk_s, rd_0, rd_s, sb_a, sb_l, si_a, si_l, hd_0, out_t, out_f, argD, ite_self, List.map_cons, List.map_nil, List.append_nil, List.cons_append, List.nil_append, Bool.and_true, Bool.true_and, Bool.not_true, Bool.not_false, Bool.and_false, Bool.false_and, true_and, and_true, decide_eq_true_eq, Bool.false_eq_true, if_false, if_true, ite_true, ite_false, reduceIte, Bool.not_eq_true', Bool.true_eq_false, eq_self, join_txt h e]
      rfl
end K12
namespace K12
open PySem PD SX
/-! what is drawn -/
theorem lp_spans {ns : List Int} {Hz : Int} (hz : 0 ≤ Hz ∧ Hz ≤ 20000) {s2 : Option D} {K : ES → Prop} : ∀ (ks : List Int) (p : Nat) (v : Int) (acc : Sp) (f : Int) (a5 a6 a7 : Option D), 0 ≤ v → acc.length + ks.length ≤ 1000 →
    (∀ (xs : Sp) (p' : Nat) (v' f' : Int) (a5 a6 a7 : Option D), 0 ≤ v' → xs.length ≤ acc.length + ks.length → K (.nx, [some (stt ns p' v'), some (.int Hz), s2, some (spD .o xs), some (.int f'), a5, a6, a7])) →
    has (evForL (tgName 5) bd__law_spans_0 (ks.map .int) [some (stt ns p v), some (.int Hz), s2, some (spD .o acc), some (.int f), a5, a6, a7]) K
  | [], p, v, acc, f, a5, a6, a7, hv, hl, h => by
    simp only [e_cst, e_nil, e_yes, e_var, e_fv, e_mv, e_cons, e_dfr, e_op, e_tup, e_lst, e_tr, e_notT, e_andT, e_orT, e_andV, e_orV, e_notV, e_opq, e_if, e_call, e_callM, e_chain, e_src, e_rng, e_lc, g_nx, g_retN, g_brk, g_cnt, g_seq, g_drop, g_ret, g_asg, g_if, g_for, g_app, g_set, kk_ok, kS_ok, kQ_nx, kQ_rt, kQ_bk, kQ_ct, kk_ex, kS_ex, kQ_ex, g_raise, e_isi, g_asgT, e_grd, g_try, g_tryAs, g_appT, e_chainN, lkQ_1, lkQ_2, noX_rt, noX_nx, noX_bk, noX_ct, hdQ_0, hdQ_s, tryQ_ex, tryQ_rt, tryQ_nx, tryQ_bk, tryQ_ct, tasQ_ex, tasQ_rt, tasQ_nx, tasQ_bk, tasQ_ct, has_some, sl_0, sl_s, st_0, st_s, v_add, v_sub, v_neg, v_lt, v_le, v_gt, v_ge, v_eqi, v_nei, v_is, v_isNot, v_len, v_lenT, v_abs, v_int, v_item, v_itemT, v_list, v_max, v_min, v_repr, blD_bl, truD_bl, truD_lst, isF_int, isF_bl, isF_non, isF_tup, isF_str, isF_lf, isF_lk, isF_lo, isF_ll, at_0, at_1, at_2, ix_0, ix_1, ix_2, cap_i, cap_t, noL_i, noL_n, noL_b, noL_t, ck_0, ck_s, lk_0, lk_1, lk_2, lk_3, lk_4, ln_0, ln_1, ln_2, ln_3, ln_4, own_o, own_l, own_f, its_o, its_l, its_f, lend_o, lend_i, lend_b, lend_n, lend_s, lend_t, cap_k, cap_f, lend_l, lend_f, sh_o, sh_l, sh_f, sh_k, Bool.or_true, Bool.true_or, Bool.or_false, Bool.false_or, intD, isLst, lstO, List.set_cons_zero, List.set_cons_succ, bind_S, ty_i, ty_b, ty_s, ty_t, ty_l, ty_n, is_ii, is_ib, is_is, is_it, is_il, is_bi, is_bb, is_bs, is_bt, is_bl, is_si, is_sb, is_ss, is_st, is_sl, is_ti, is_tb, is_ts, is_tt, is_tl, is_li, is_lb, is_ls, is_lt, is_ll, is_ni, is_nb, is_ns, is_nt, is_nl, v_eqS, v_neS, v_inS, v_notInS, truD_n, truD_t, cap_o, cap_s, cap_n, cap_b, noL_s, its_t, own_t, own_s, its_s, sv_n, sv_i, sv_s, sv_b, isStr_s, isNon_n, isNon_i, isNon_s, isNon_t, isNon_l, v_tup, forL_0, kL_nx, kL_ct, kL_bk, kL_rt, kL_ex, tg_n, tg_t, tg_0, tg_s, wp_0, wp_s, bk_0, bk_s, rd_0, rd_s, sb_a, sb_l, si_a, si_l, hd_0, out_t, out_f, argD, ite_self, List.map_cons, List.map_nil, List.append_nil, List.cons_append, List.nil_append, Bool.and_true, Bool.true_and, Bool.not_true, Bool.not_false, Bool.and_false, Bool.false_and, true_and, and_true, decide_eq_true_eq, Bool.false_eq_true, if_false, if_true, ite_true, ite_false, reduceIte, Bool.not_eq_true', Bool.true_eq_false, eq_self]
    exact h acc p v f a5 a6 a7 hv (by simp)
  | k :: r, p, v, acc, f, a5, a6, a7, hv, hl, h => by
    simp only [List.length_cons] at hl h
    have ed : gDiv [.int Hz, .int 3] = some (.int (Hz / 3)) := v_div (by decide)
    obtain ⟨r1, p1, v1, h1, h2, h3, e1⟩ := take_ok ns p v (Hz / 3 + 1) hv (by omega) (by omega)
    obtain ⟨r2, p2, v2, k1, k2, k3, e2⟩ := take_ok ns p1 v1 (Hz / 3 + 1) h3 (by omega) (by omega)
    have hl2 : (acc.map pr).length < 1000000 := by rw [List.length_map]; omega
    rw [List.map_cons, forL_s, tg_n, has_some]
    simp only [st_s, st_0]
    unfold bd__law_spans_0
    refine step [some (stt ns p1 v1), some (.int Hz), s2, some (spD .o acc), some (.int f), some (.int k), some (.int (f + r1)), a7] (fun k Q hk => ?_) ?_
    · simp only [e_cst, e_nil, e_yes, e_var, e_fv, e_mv, e_cons, e_dfr, e_op, e_tup, e_lst, e_tr, e_notT, e_andT, e_orT, e_andV, e_orV, e_notV, e_opq, e_if, e_call, e_callM, e_chain, e_src, e_rng, e_lc, g_nx, g_retN, g_brk, g_cnt, g_seq, g_drop, g_ret, g_asg, g_if, g_for, g_app, g_set, kk_ok, kS_ok, kQ_nx, kQ_rt, kQ_bk, kQ_ct, kk_ex, kS_ex, kQ_ex, g_raise, e_isi, g_asgT, e_grd, g_try, g_tryAs, g_appT, e_chainN, lkQ_1, lkQ_2, noX_rt, noX_nx, noX_bk, noX_ct, hdQ_0, hdQ_s, tryQ_ex, tryQ_rt, tryQ_nx, tryQ_bk, tryQ_ct, tasQ_ex, tasQ_rt, tasQ_nx, tasQ_bk, tasQ_ct, has_some, sl_0, sl_s, st_0, st_s, v_add, v_sub, v_neg, v_lt, v_le, v_gt, v_ge, v_eqi, v_nei, v_is, v_isNot, v_len, v_lenT, v_abs, v_int, v_item, v_itemT, v_list, v_max, v_min, v_repr, blD_bl, truD_bl, truD_lst, isF_int, isF_bl, isF_non, isF_tup, isF_str, isF_lf, isF_lk, isF_lo, isF_ll, at_0, at_1, at_2, ix_0, ix_1, ix_2, cap_i, cap_t, noL_i, noL_n, noL_b, noL_t, ck_0, ck_s, lk_0, lk_1, lk_2, lk_3, lk_4, ln_0, ln_1, ln_2, ln_3, ln_4, own_o, own_l, own_f, its_o, its_l, its_f, lend_o, lend_i, lend_b, lend_n, lend_s, lend_t, cap_k, cap_f, lend_l, lend_f, sh_o, sh_l, sh_f, sh_k, Bool.or_true, Bool.true_or, Bool.or_false, Bool.false_or, intD, isLst, lstO, List.set_cons_zero, List.set_cons_succ, bind_S, ty_i, ty_b, ty_s, ty_t, ty_l, ty_n, is_ii, is_ib, is_is, is_it, is_il, is_bi, is_bb, is_bs, is_bt, is_bl, is_si, is_sb, is_ss, is_st, is_sl, is_ti, is_tb, is_ts, is_tt, is_tl, is_li, is_lb, is_ls, is_lt, is_ll, is_ni, is_nb, is_ns, is_nt, is_nl, v_eqS, v_neS, v_inS, v_notInS, truD_n, truD_t, cap_o, cap_s, cap_n, cap_b, noL_s, its_t, own_t, own_s, its_s, sv_n, sv_i, sv_s, sv_b, isStr_s, isNon_n, isNon_i, isNon_s, isNon_t, isNon_l, v_tup, forL_0, kL_nx, kL_ct, kL_bk, kL_rt, kL_ex, tg_n, tg_t, tg_0, tg_s, wp_0, wp_s, bk_0, bk_s, rd_0, rd_s, sb_a, sb_l, si_a, si_l, hd_0, out_t, out_f, argD, ite_self, List.map_cons, List.map_nil, List.append_nil, List.cons_append, List.nil_append, Bool.and_true, Bool.true_and, Bool.not_true, Bool.not_false, Bool.and_false, Bool.false_and, true_and, and_true, decide_eq_true_eq, Bool.false_eq_true, if_false, if_true, ite_true, ite_false, reduceIte, Bool.not_eq_true', Bool.true_eq_false, eq_self, ed, e1]
      exact hk
    refine step [some (stt ns p2 v2), some (.int Hz), s2, some (spD .o acc), some (.int f), some (.int k), some (.int (f + r1)), some (.int (f + r1 + r2))] (fun k Q hk => ?_) ?_
    · simp only [e_cst, e_nil, e_yes, e_var, e_fv, e_mv, e_cons, e_dfr, e_op, e_tup, e_lst, e_tr, e_notT, e_andT, e_orT, e_andV, e_orV, e_notV, e_opq, e_if, e_call, e_callM, e_chain, e_src, e_rng, e_lc, g_nx, g_retN, g_brk, g_cnt, g_seq, g_drop, g_ret, g_asg, g_if, g_for, g_app, g_set, kk_ok, kS_ok, kQ_nx, kQ_rt, kQ_bk, kQ_ct, kk_ex, kS_ex, kQ_ex, g_raise, e_isi, g_asgT, e_grd, g_try, g_tryAs, g_appT, e_chainN, lkQ_1, lkQ_2, noX_rt, noX_nx, noX_bk, noX_ct, hdQ_0, hdQ_s, tryQ_ex, tryQ_rt, tryQ_nx, tryQ_bk, tryQ_ct, tasQ_ex, tasQ_rt, tasQ_nx, tasQ_bk, tasQ_ct, has_some, sl_0, sl_s, st_0, st_s, v_add, v_sub, v_neg, v_lt, v_le, v_gt, v_ge, v_eqi, v_nei, v_is, v_isNot, v_len, v_lenT, v_abs, v_int, v_item, v_itemT, v_list, v_max, v_min, v_repr, blD_bl, truD_bl, truD_lst, isF_int, isF_bl, isF_non, isF_tup, isF_str, isF_lf, isF_lk, isF_lo, isF_ll, at_0, at_1, at_2, ix_0, ix_1, ix_2, cap_i, cap_t, noL_i, noL_n, noL_b, noL_t, ck_0, ck_s, lk_0, lk_1, lk_2, lk_3, lk_4, ln_0, ln_1, ln_2, ln_3, ln_4, own_o, own_l, own_f, its_o, its_l, its_f, lend_o, lend_i, lend_b, lend_n, lend_s, lend_t, cap_k, cap_f, lend_l, lend_f, sh_o, sh_l, sh_f, sh_k, Bool.or_true, Bool.true_or, Bool.or_false, Bool.false_or, intD, isLst, lstO, List.set_cons_zero, List.set_cons_succ, bind_S, ty_i, ty_b, ty_s, ty_t, ty_l, ty_n, is_ii, is_ib, is_is, is_it, is_il, is_bi, is_bb, is_bs, is_bt, is_bl, is_si, is_sb, is_ss, is_st, is_sl, is_ti, is_tb, is_ts, is_tt, is_tl, is_li, is_lb, is_ls, is_lt, is_ll, is_ni, is_nb, is_ns, is_nt, is_nl, v_eqS, v_neS, v_inS, v_notInS, truD_n, truD_t, cap_o, cap_s, cap_n, cap_b, noL_s, its_t, own_t, own_s, its_s, sv_n, sv_i, sv_s, sv_b, isStr_s, isNon_n, isNon_i, isNon_s, isNon_t, isNon_l, v_tup, forL_0, kL_nx, kL_ct, kL_bk, kL_rt, kL_ex, tg_n, tg_t, tg_0, tg_s, wp_0, wp_s, bk_0, bk_s, rd_0, rd_s, sb_a, sb_l, si_a, si_l, hd_0, out_t, out_f, argD, ite_self, List.map_cons, List.map_nil, List.append_nil, List.cons_append, List.nil_append, Bool.and_true, Bool.true_and, Bool.not_true, Bool.not_false, Bool.and_false, Bool.false_and, true_and, and_true, decide_eq_true_eq, Bool.false_eq_true, if_false, if_true, ite_true, ite_false, reduceIte, Bool.not_eq_true', Bool.true_eq_false, eq_self, ed, e2]
      exact hk
    by_cases hb : f + r1 ≤ Hz
    · refine step [some (stt ns p2 v2), some (.int Hz), s2, some (spD .o (acc ++ [(f + r1, min (f + r1 + r2) Hz)])), some (.int f), some (.int k), some (.int (f + r1)), some (.int (f + r1 + r2))] (fun k Q hk => ?_) ?_
      · simp only [e_cst, e_nil, e_yes, e_var, e_fv, e_mv, e_cons, e_dfr, e_op, e_tup, e_lst, e_tr, e_notT, e_andT, e_orT, e_andV, e_orV, e_notV, e_opq, e_if, e_call, e_callM, e_chain, e_src, e_rng, e_lc, g_nx, g_retN, g_brk, g_cnt, g_seq, g_drop, g_ret, g_asg, g_if, g_for, g_app, g_set, kk_ok, kS_ok, kQ_nx, kQ_rt, kQ_bk, kQ_ct, kk_ex, kS_ex, kQ_ex, g_raise, e_isi, g_asgT, e_grd, g_try, g_tryAs, g_appT, e_chainN, lkQ_1, lkQ_2, noX_rt, noX_nx, noX_bk, noX_ct, hdQ_0, hdQ_s, tryQ_ex, tryQ_rt, tryQ_nx, tryQ_bk, tryQ_ct, tasQ_ex, tasQ_rt, tasQ_nx, tasQ_bk, tasQ_ct, has_some, sl_0, sl_s, st_0, st_s, v_add, v_sub, v_neg, v_lt, v_le, v_gt, v_ge, v_eqi, v_nei, v_is, v_isNot, v_len, v_lenT, v_abs, v_int, v_item, v_itemT, v_list, v_max, v_min, v_repr, blD_bl, truD_bl, truD_lst, isF_int, isF_bl, isF_non, isF_tup, isF_str, isF_lf, isF_lk, isF_lo, isF_ll, at_0, at_1, at_2, ix_0, ix_1, ix_2, cap_i, cap_t, noL_i, noL_n, noL_b, noL_t, ck_0, ck_s, lk_0, lk_1, lk_2, lk_3, lk_4, ln_0, ln_1, ln_2, ln_3, ln_4, own_o, own_l, own_f, its_o, its_l, its_f, lend_o, lend_i, lend_b, lend_n, lend_s, lend_t, cap_k, cap_f, lend_l, lend_f, sh_o, sh_l, sh_f, sh_k, Bool.or_true, Bool.true_or, Bool.or_false, Bool.false_or, intD, isLst, lstO, List.set_cons_zero, List.set_cons_succ, bind_S, ty_i, ty_b, ty_s, ty_t, ty_l, ty_n, is_ii, is_ib, is_is, is_it, is_il, is_bi, is_bb, is_bs, is_bt, is_bl, is_si, is_sb, is_ss, is_st, is_sl, is_ti, is_tb, is_ts, is_tt, is_tl, is_li, is_lb, is_ls, is_lt, is_ll, is_ni, is_nb, is_ns, is_nt, is_nl, v_eqS, v_neS, v_inS, v_notInS, truD_n, truD_t, cap_o, cap_s, cap_n, cap_b, noL_s, its_t, own_t, own_s, its_s, sv_n, sv_i, sv_s, sv_b, isStr_s, isNon_n, isNon_i, isNon_s, isNon_t, isNon_l, v_tup, forL_0, kL_nx, kL_ct, kL_bk, kL_rt, kL_ex, tg_n, tg_t, tg_0, tg_s, wp_0, wp_s, bk_0, bk_s, rd_0, rd_s, sb_a, sb_l, si_a, si_l, hd_0, out_t, out_f, argD, ite_self, List.map_cons, List.map_nil, List.append_nil, List.cons_append, List.nil_append, Bool.and_true, Bool.true_and, Bool.not_true, Bool.not_false, Bool.and_false, Bool.false_and, true_and, and_true, decide_eq_true_eq, Bool.false_eq_true, if_false, if_true, ite_true, ite_false, reduceIte, Bool.not_eq_true', Bool.true_eq_false, eq_self, hb]
        refine ⟨hl2, ?_⟩
        rw [snoc]
        exact hk
      simp only [e_cst, e_nil, e_yes, e_var, e_fv, e_mv, e_cons, e_dfr, e_op, e_tup, e_lst, e_tr, e_notT, e_andT, e_orT, e_andV, e_orV, e_notV, e_opq, e_if, e_call, e_callM, e_chain, e_src, e_rng, e_lc, g_nx, g_retN, g_brk, g_cnt, g_seq, g_drop, g_ret, g_asg, g_if, g_for, g_app, g_set, kk_ok, kS_ok, kQ_nx, kQ_rt, kQ_bk, kQ_ct, kk_ex, kS_ex, kQ_ex, g_raise, e_isi, g_asgT, e_grd, g_try, g_tryAs, g_appT, e_chainN, lkQ_1, lkQ_2, noX_rt, noX_nx, noX_bk, noX_ct, hdQ_0, hdQ_s, tryQ_ex, tryQ_rt, tryQ_nx, tryQ_bk, tryQ_ct, tasQ_ex, tasQ_rt, tasQ_nx, tasQ_bk, tasQ_ct, has_some, sl_0, sl_s, st_0, st_s, v_add, v_sub, v_neg, v_lt, v_le, v_gt, v_ge, v_eqi, v_nei, v_is, v_isNot, v_len, v_lenT, v_abs, v_int, v_item, v_itemT, v_list, v_max, v_min, v_repr, blD_bl, truD_bl, truD_lst, isF_int, isF_bl, isF_non, isF_tup, isF_str, isF_lf, isF_lk, isF_lo, isF_ll, at_0, at_1, at_2, ix_0, ix_1, ix_2, cap_i, cap_t, noL_i, noL_n, noL_b, noL_t, ck_0, ck_s, lk_0, lk_1, lk_2, lk_3, lk_4, ln_0, ln_1, ln_2, ln_3, ln_4, own_o, own_l, own_f, its_o, its_l, its_f, lend_o, lend_i, lend_b, lend_n, lend_s, lend_t, cap_k, cap_f, lend_l, lend_f, sh_o, sh_l, sh_f, sh_k, Bool.or_true, Bool.true_or, Bool.or_false, Bool.false_or, intD, isLst, lstO, List.set_cons_zero, List.set_cons_succ, bind_S, ty_i, ty_b, ty_s, ty_t, ty_l, ty_n, is_ii, is_ib, is_is, is_it, is_il, is_bi, is_bb, is_bs, is_bt, is_bl, is_si, is_sb, is_ss, is_st, is_sl, is_ti, is_tb, is_ts, is_tt, is_tl, is_li, is_lb, is_ls, is_lt, is_ll, is_ni, is_nb, is_ns, is_nt, is_nl, v_eqS, v_neS, v_inS, v_notInS, truD_n, truD_t, cap_o, cap_s, cap_n, cap_b, noL_s, its_t, own_t, own_s, its_s, sv_n, sv_i, sv_s, sv_b, isStr_s, isNon_n, isNon_i, isNon_s, isNon_t, isNon_l, v_tup, forL_0, kL_nx, kL_ct, kL_bk, kL_rt, kL_ex, tg_n, tg_t, tg_0, tg_s, wp_0, wp_s, bk_0, bk_s, rd_0, rd_s, sb_a, sb_l, si_a, si_l, hd_0, out_t, out_f, argD, ite_self, List.map_cons, List.map_nil, List.append_nil, List.cons_append, List.nil_append, Bool.and_true, Bool.true_and, Bool.not_true, Bool.not_false, Bool.and_false, Bool.false_and, true_and, and_true, decide_eq_true_eq, Bool.false_eq_true, if_false, if_true, ite_true, ite_false, reduceIte, Bool.not_eq_true', Bool.true_eq_false, eq_self]
      refine lp_spans hz r p2 v2 _ _ _ _ _ k3 (by simp; omega) fun xs p' v' f' a5 a6 a7 q1 q2 => ?_
      exact h xs p' v' f' a5 a6 a7 q1 (by simp at q2; omega)
    · refine step [some (stt ns p2 v2), some (.int Hz), s2, some (spD .o acc), some (.int f), some (.int k), some (.int (f + r1)), some (.int (f + r1 + r2))] (fun k Q hk => ?_) ?_
      · simp only [e_cst, e_nil, e_yes, e_var, e_fv, e_mv, e_cons, e_dfr, e_op, e_tup, e_lst, e_tr, e_notT, e_andT, e_orT, e_andV, e_orV, e_notV, e_opq, e_if, e_call, e_callM, e_chain, e_src, e_rng, e_lc, g_nx, g_retN, g_brk, g_cnt, g_seq, g_drop, g_ret, g_asg, g_if, g_for, g_app, g_set, kk_ok, kS_ok, kQ_nx, kQ_rt, kQ_bk, kQ_ct, kk_ex, kS_ex, kQ_ex, g_raise, e_isi, g_asgT, e_grd, g_try, g_tryAs, g_appT, e_chainN, lkQ_1, lkQ_2, noX_rt, noX_nx, noX_bk, noX_ct, hdQ_0, hdQ_s, tryQ_ex, tryQ_rt, tryQ_nx, tryQ_bk, tryQ_ct, tasQ_ex, tasQ_rt, tasQ_nx, tasQ_bk, tasQ_ct, has_some, sl_0, sl_s, st_0, st_s, v_add, v_sub, v_neg, v_lt, v_le, v_gt, v_ge, v_eqi, v_nei, v_is, v_isNot, v_len, v_lenT, v_abs, v_int, v_item, v_itemT, v_list, v_max, v_min, v_repr, blD_bl, truD_bl, truD_lst, isF_int, isF_bl, isF_non, isF_tup, isF_str, isF_lf, isF_lk, isF_lo, isF_ll, at_0, at_1, at_2, ix_0, ix_1, ix_2, cap_i, cap_t, noL_i, noL_n, noL_b, noL_t, ck_0, ck_s, lk_0, lk_1, lk_2, lk_3, lk_4, ln_0, ln_1, ln_2, ln_3, ln_4, own_o, own_l, own_f, its_o, its_l, its_f, lend_o, lend_i, lend_b, lend_n, lend_s, lend_t, cap_k, cap_f, lend_l, lend_f, sh_o, sh_l, sh_f, sh_k, Bool.or_true, Bool.true_or, Bool.or_false, Bool.false_or, intD, isLst, lstO, List.set_cons_zero, List.set_cons_succ, bind_S, ty_i, ty_b, ty_s, ty_t, ty_l, ty_n, is_ii, is_ib, is_is, is_it, is_il, is_bi, is_bb, is_bs, is_bt, is_bl, is_si, is_sb, is_ss, is_st, is_sl, is_ti, is_tb, is_ts, is_tt, is_tl, is_li, is_lb, is_ls, is_lt, is_ll, is_ni, is_nb, is_ns, is_nt, is_nl, v_eqS, v_neS, v_inS, v_notInS, truD_n, truD_t, cap_o, cap_s, cap_n, cap_b, noL_s, its_t, own_t, own_s, its_s, sv_n, sv_i, sv_s, sv_b, isStr_s, isNon_n, isNon_i, isNon_s, isNon_t, isNon_l, v_tup, forL_0, kL_nx, kL_ct, kL_bk, kL_rt, kL_ex, tg_n, tg_t, tg_0, tg_s, wp_0, wp_s, bk_0, bk_s, rd_0, rd_s, sb_a, sb_l, si_a, si_l, hd_0, out_t, out_f, argD, ite_self, List.map_cons, List.map_nil, List.append_nil, List.cons_append, List.nil_append, Bool.and_true, Bool.true_and, Bool.not_true, Bool.not_false, Bool.and_false, Bool.false_and, true_and, and_true, decide_eq_true_eq, Bool.false_eq_true, if_false, if_true, ite_true, ite_false, reduceIte, Bool.not_eq_true', Bool.true_eq_false, eq_self, hb]
        exact hk
      simp only [e_cst, e_nil, e_yes, e_var, e_fv, e_mv, e_cons, e_dfr, e_op, e_tup, e_lst, e_tr, e_notT, e_andT, e_orT, e_andV, e_orV, e_notV, e_opq, e_if, e_call, e_callM, e_chain, e_src, e_rng, e_lc, g_nx, g_retN, g_brk, g_cnt, g_seq, g_drop, g_ret, g_asg, g_if, g_for, g_app, g_set, kk_ok, kS_ok, kQ_nx, kQ_rt, kQ_bk, kQ_ct, kk_ex, kS_ex, kQ_ex, g_raise, e_isi, g_asgT, e_grd, g_try, g_tryAs, g_appT, e_chainN, lkQ_1, lkQ_2, noX_rt, noX_nx, noX_bk, noX_ct, hdQ_0, hdQ_s, tryQ_ex, tryQ_rt, tryQ_nx, tryQ_bk, tryQ_ct, tasQ_ex, tasQ_rt, tasQ_nx, tasQ_bk, tasQ_ct, has_some, sl_0, sl_s, st_0, st_s, v_add, v_sub, v_neg, v_lt, v_le, v_gt, v_ge, v_eqi, v_nei, v_is, v_isNot, v_len, v_lenT, v_abs, v_int, v_item, v_itemT, v_list, v_max, v_min, v_repr, blD_bl, truD_bl, truD_lst, isF_int, isF_bl, isF_non, isF_tup, isF_str, isF_lf, isF_lk, isF_lo, isF_ll, at_0, at_1, at_2, ix_0, ix_1, ix_2, cap_i, cap_t, noL_i, noL_n, noL_b, noL_t, ck_0, ck_s, lk_0, lk_1, lk_2, lk_3, lk_4, ln_0, ln_1, ln_2, ln_3, ln_4, own_o, own_l, own_f, its_o, its_l, its_f, lend_o, lend_i, lend_b, lend_n, lend_s, lend_t, cap_k, cap_f, lend_l, lend_f, sh_o, sh_l, sh_f, sh_k, Bool.or_true, Bool.true_or, Bool.or_false, Bool.false_or, intD, isLst, lstO, List.set_cons_zero, List.set_cons_succ, bind_S, ty_i, ty_b, ty_s, ty_t, ty_l, ty_n, is_ii, is_ib, is_is, is_it, is_il, is_bi, is_bb, is_bs, is_bt, is_bl, is_si, is_sb, is_ss, is_st, is_sl, is_ti, is_tb, is_ts, is_tt, is_tl, is_li, is_lb, is_ls, is_lt, is_ll, is_ni, is_nb, is_ns, is_nt, is_nl, v_eqS, v_neS, v_inS, v_notInS, truD_n, truD_t, cap_o, cap_s, cap_n, cap_b, noL_s, its_t, own_t, own_s, its_s, sv_n, sv_i, sv_s, sv_b, isStr_s, isNon_n, isNon_i, isNon_s, isNon_t, isNon_l, v_tup, forL_0, kL_nx, kL_ct, kL_bk, kL_rt, kL_ex, tg_n, tg_t, tg_0, tg_s, wp_0, wp_s, bk_0, bk_s, rd_0, rd_s, sb_a, sb_l, si_a, si_l, hd_0, out_t, out_f, argD, ite_self, List.map_cons, List.map_nil, List.append_nil, List.cons_append, List.nil_append, Bool.and_true, Bool.true_and, Bool.not_true, Bool.not_false, Bool.and_false, Bool.false_and, true_and, and_true, decide_eq_true_eq, Bool.false_eq_true, if_false, if_true, ite_true, ite_false, reduceIte, Bool.not_eq_true', Bool.true_eq_false, eq_self]
      refine lp_spans hz r p2 v2 _ _ _ _ _ k3 (by omega) fun xs p' v' f' a5 a6 a7 q1 q2 => ?_
      exact h xs p' v' f' a5 a6 a7 q1 (by omega)
/-- a def that draws -/
theorem drawn {ev : DS → Option ES} {n np : Nat} {ds : List D} {P : D → Option D → Prop} (hl : ds.length = np) (h : Go ev (ds.map some ++ List.replicate (n - np) none) fun o δ => ∃ d, o = .rt d ∧ P d (hd0 δ)) : ∃ d s, P d s ∧ fnOf n np true ev ds = some (.ok d, s :: List.replicate (np - 1) none) := by
  obtain ⟨o, δ, e, d, rfl, hP⟩ := h
  exact ⟨d, hd0 δ, hP, fn_go hl ⟨_, _, e, rfl⟩⟩
theorem ok_spans (ns : List Int) (p : Nat) (v Hz : Int) (hz : 0 ≤ Hz ∧ Hz ≤ 20000) (hv : 0 ≤ v) : ∃ d s, (∃ (xs : Sp) (p' : Nat) (v' : Int), 0 ≤ v' ∧ xs.length ≤ 4 ∧ d = spD .o xs ∧ s = some (stt ns p' v')) ∧ F__law_spans [stt ns p v, .int Hz, .int 4] = some (.ok d, [s, none, none]) := by
  obtain ⟨r1, p1, v1, h1, h2, h3, e1⟩ := take_ok ns p v (4 + 1) hv (by omega) (by omega)
  unfold F__law_spans
  refine drawn rfl ?_
  show Go ev__law_spans [some (stt ns p v), some (.int Hz), some (.int 4), none, none, none, none, none] _
  unfold ev__law_spans
  refine step [some (stt ns p v), some (.int Hz), some (.int 4), some (spD .o []), none, none, none, none] (fun k Q hk => ?_) ?_
  · simp only [e_cst, e_nil, e_yes, e_var, e_fv, e_mv, e_cons, e_dfr, e_op, e_tup, e_lst, e_tr, e_notT, e_andT, e_orT, e_andV, e_orV, e_notV, e_opq, e_if, e_call, e_callM, e_chain, e_src, e_rng, e_lc, g_nx, g_retN, g_brk, g_cnt, g_seq, g_drop, g_ret, g_asg, g_if, g_for, g_app, g_set, kk_ok, kS_ok, kQ_nx, kQ_rt, kQ_bk, kQ_ct, kk_ex, kS_ex, kQ_ex, g_raise, e_isi, g_asgT, e_grd, g_try, g_tryAs, g_appT, e_chainN, lkQ_1, lkQ_2, noX_rt, noX_nx, noX_bk, noX_ct, hdQ_0, hdQ_s, tryQ_ex, tryQ_rt, tryQ_nx, tryQ_bk, tryQ_ct, tasQ_ex, tasQ_rt, tasQ_nx, tasQ_bk, tasQ_ct, has_some, sl_0, sl_s, st_0, st_s, v_add, v_sub, v_neg, v_lt, v_le, v_gt, v_ge, v_eqi, v_nei, v_is, v_isNot, v_len, v_lenT, v_abs, v_int, v_item, v_itemT, v_list, v_max, v_min, v_repr, blD_bl, truD_bl, truD_lst, isF_int, isF_bl, isF_non, isF_tup, isF_str, isF_lf, isF_lk, isF_lo, isF_ll, at_0, at_1, at_2, ix_0, ix_1, ix_2, cap_i, cap_t, noL_i, noL_n, noL_b, noL_t, ck_0, ck_s, lk_0, lk_1, lk_2, lk_3, lk_4, ln_0, ln_1, ln_2, ln_3, ln_4, own_o, own_l, own_f, its_o, its_l, its_f, lend_o, lend_i, lend_b, lend_n, lend_s, lend_t, cap_k, cap_f, lend_l, lend_f, sh_o, sh_l, sh_f, sh_k, Bool.or_true, Bool.true_or, Bool.or_false, Bool.false_or, intD, isLst, lstO, List.set_cons_zero, List.set_cons_succ, bind_S, ty_i, ty_b, ty_s, ty_t, ty_l, ty_n, is_ii, is_ib, is_is, is_it, is_il, is_bi, is_bb, is_bs, is_bt, is_bl, is_si, is_sb, is_ss, is_st, is_sl, is_ti, is_tb, is_ts, is_tt, is_tl, is_li, is_lb, is_ls, is_lt, is_ll, is_ni, is_nb, is_ns, is_nt, is_nl, v_eqS, v_neS, v_inS, v_notInS, truD_n, truD_t, cap_o, cap_s, cap_n, cap_b, noL_s, its_t, own_t, own_s, its_s, sv_n, sv_i, sv_s, sv_b, isStr_s, isNon_n, isNon_i, isNon_s, isNon_t, isNon_l, v_tup, forL_0, kL_nx, kL_ct, kL_bk, kL_rt, kL_ex, tg_n, tg_t, tg_0, tg_s, wp_0, wp_s, bk_0, bk_s, rd_0, rd_s, sb_a, sb_l, si_a, si_l, hd_0, out_t, out_f, argD, ite_self, List.map_cons, List.map_nil, List.append_nil, List.cons_append, List.nil_append, Bool.and_true, Bool.true_and, Bool.not_true, Bool.not_false, Bool.and_false, Bool.false_and, true_and, and_true, decide_eq_true_eq, Bool.false_eq_true, if_false, if_true, ite_true, ite_false, reduceIte, Bool.not_eq_true', Bool.true_eq_false, eq_self]; exact hk
  refine step [some (stt ns p v), some (.int Hz), some (.int 4), some (spD .o []), some (.int 0), none, none, none] (fun k Q hk => ?_) ?_
  · simp only [e_cst, e_nil, e_yes, e_var, e_fv, e_mv, e_cons, e_dfr, e_op, e_tup, e_lst, e_tr, e_notT, e_andT, e_orT, e_andV, e_orV, e_notV, e_opq, e_if, e_call, e_callM, e_chain, e_src, e_rng, e_lc, g_nx, g_retN, g_brk, g_cnt, g_seq, g_drop, g_ret, g_asg, g_if, g_for, g_app, g_set, kk_ok, kS_ok, kQ_nx, kQ_rt, kQ_bk, kQ_ct, kk_ex, kS_ex, kQ_ex, g_raise, e_isi, g_asgT, e_grd, g_try, g_tryAs, g_appT, e_chainN, lkQ_1, lkQ_2, noX_rt, noX_nx, noX_bk, noX_ct, hdQ_0, hdQ_s, tryQ_ex, tryQ_rt, tryQ_nx, tryQ_bk, tryQ_ct, tasQ_ex, tasQ_rt, tasQ_nx, tasQ_bk, tasQ_ct, has_some, sl_0, sl_s, st_0, st_s, v_add, v_sub, v_neg, v_lt, v_le, v_gt, v_ge, v_eqi, v_nei, v_is, v_isNot, v_len, v_lenT, v_abs, v_int, v_item, v_itemT, v_list, v_max, v_min, v_repr, blD_bl, truD_bl, truD_lst, isF_int, isF_bl, isF_non, isF_tup, isF_str, isF_lf, isF_lk, isF_lo, isF_ll, at_0, at_1, at_2, ix_0, ix_1, ix_2, cap_i, cap_t, noL_i, noL_n, noL_b, noL_t, ck_0, ck_s, lk_0, lk_1, lk_2, lk_3, lk_4, ln_0, ln_1, ln_2, ln_3, ln_4, own_o, own_l, own_f, its_o, its_l, its_f, lend_o, lend_i, lend_b, lend_n, lend_s, lend_t, cap_k, cap_f, lend_l, lend_f, sh_o, sh_l, sh_f, sh_k, Bool.or_true, Bool.true_or, Bool.or_false, Bool.false_or, intD, isLst, lstO, List.set_cons_zero, List.set_cons_succ, bind_S, ty_i, ty_b, ty_s, ty_t, ty_l, ty_n, is_ii, is_ib, is_is, is_it, is_il, is_bi, is_bb, is_bs, is_bt, is_bl, is_si, is_sb, is_ss, is_st, is_sl, is_ti, is_tb, is_ts, is_tt, is_tl, is_li, is_lb, is_ls, is_lt, is_ll, is_ni, is_nb, is_ns, is_nt, is_nl, v_eqS, v_neS, v_inS, v_notInS, truD_n, truD_t, cap_o, cap_s, cap_n, cap_b, noL_s, its_t, own_t, own_s, its_s, sv_n, sv_i, sv_s, sv_b, isStr_s, isNon_n, isNon_i, isNon_s, isNon_t, isNon_l, v_tup, forL_0, kL_nx, kL_ct, kL_bk, kL_rt, kL_ex, tg_n, tg_t, tg_0, tg_s, wp_0, wp_s, bk_0, bk_s, rd_0, rd_s, sb_a, sb_l, si_a, si_l, hd_0, out_t, out_f, argD, ite_self, List.map_cons, List.map_nil, List.append_nil, List.cons_append, List.nil_append, Bool.and_true, Bool.true_and, Bool.not_true, Bool.not_false, Bool.and_false, Bool.false_and, true_and, and_true, decide_eq_true_eq, Bool.false_eq_true, if_false, if_true, ite_true, ite_false, reduceIte, Bool.not_eq_true', Bool.true_eq_false, eq_self]; exact hk
  simp only [e_cst, e_nil, e_yes, e_var, e_fv, e_mv, e_cons, e_dfr, e_op, e_tup, e_lst, e_tr, e_notT, e_andT, e_orT, e_andV, e_orV, e_notV, e_opq, e_if, e_call, e_callM, e_chain, e_src, e_rng, e_lc, g_nx, g_retN, g_brk, g_cnt, g_seq, g_drop, g_ret, g_asg, g_if, g_for, g_app, g_set, kk_ok, kS_ok, kQ_nx, kQ_rt, kQ_bk, kQ_ct, kk_ex, kS_ex, kQ_ex, g_raise, e_isi, g_asgT, e_grd, g_try, g_tryAs, g_appT, e_chainN, lkQ_1, lkQ_2, noX_rt, noX_nx, noX_bk, noX_ct, hdQ_0, hdQ_s, tryQ_ex, tryQ_rt, tryQ_nx, tryQ_bk, tryQ_ct, tasQ_ex, tasQ_rt, tasQ_nx, tasQ_bk, tasQ_ct, has_some, sl_0, sl_s, st_0, st_s, v_add, v_sub, v_neg, v_lt, v_le, v_gt, v_ge, v_eqi, v_nei, v_is, v_isNot, v_len, v_lenT, v_abs, v_int, v_item, v_itemT, v_list, v_max, v_min, v_repr, blD_bl, truD_bl, truD_lst, isF_int, isF_bl, isF_non, isF_tup, isF_str, isF_lf, isF_lk, isF_lo, isF_ll, at_0, at_1, at_2, ix_0, ix_1, ix_2, cap_i, cap_t, noL_i, noL_n, noL_b, noL_t, ck_0, ck_s, lk_0, lk_1, lk_2, lk_3, lk_4, ln_0, ln_1, ln_2, ln_3, ln_4, own_o, own_l, own_f, its_o, its_l, its_f, lend_o, lend_i, lend_b, lend_n, lend_s, lend_t, cap_k, cap_f, lend_l, lend_f, sh_o, sh_l, sh_f, sh_k, Bool.or_true, Bool.true_or, Bool.or_false, Bool.false_or, intD, isLst, lstO, List.set_cons_zero, List.set_cons_succ, bind_S, ty_i, ty_b, ty_s, ty_t, ty_l, ty_n, is_ii, is_ib, is_is, is_it, is_il, is_bi, is_bb, is_bs, is_bt, is_bl, is_si, is_sb, is_ss, is_st, is_sl, is_ti, is_tb, is_ts, is_tt, is_tl, is_li, is_lb, is_ls, is_lt, is_ll, is_ni, is_nb, is_ns, is_nt, is_nl, v_eqS, v_neS, v_inS, v_notInS, truD_n, truD_t, cap_o, cap_s, cap_n, cap_b, noL_s, its_t, own_t, own_s, its_s, sv_n, sv_i, sv_s, sv_b, isStr_s, isNon_n, isNon_i, isNon_s, isNon_t, isNon_l, v_tup, forL_0, kL_nx, kL_ct, kL_bk, kL_rt, kL_ex, tg_n, tg_t, tg_0, tg_s, wp_0, wp_s, bk_0, bk_s, rd_0, rd_s, sb_a, sb_l, si_a, si_l, hd_0, out_t, out_f, argD, ite_self, List.map_cons, List.map_nil, List.append_nil, List.cons_append, List.nil_append, Bool.and_true, Bool.true_and, Bool.not_true, Bool.not_false, Bool.and_false, Bool.false_and, true_and, and_true, decide_eq_true_eq, Bool.false_eq_true, if_false, if_true, ite_true, ite_false, reduceIte, Bool.not_eq_true', Bool.true_eq_false, eq_self, e1, rng1_i r1 ⟨by omega, by omega⟩]
  refine lp_spans (ns := ns) hz (mins 0 r1.toNat) p1 v1 [] 0 _ _ _ h3 (by rw [mins_len]; simp; omega) fun xs p' v' f' a5 a6 a7 q1 q2 => ?_
  rw [mins_len] at q2
  simp only [e_cst, e_nil, e_yes, e_var, e_fv, e_mv, e_cons, e_dfr, e_op, e_tup, e_lst, e_tr, e_notT, e_andT, e_orT, e_andV, e_orV, e_notV, e_opq, e_if, e_call, e_callM, e_chain, e_src, e_rng, e_lc, g_nx, g_retN, g_brk, g_cnt, g_seq, g_drop, g_ret, g_asg, g_if, g_for, g_app, g_set, kk_ok, kS_ok, kQ_nx, kQ_rt, kQ_bk, kQ_ct, kk_ex, kS_ex, kQ_ex, g_raise, e_isi, g_asgT, e_grd, g_try, g_tryAs, g_appT, e_chainN, lkQ_1, lkQ_2, noX_rt, noX_nx, noX_bk, noX_ct, hdQ_0, hdQ_s, tryQ_ex, tryQ_rt, tryQ_nx, tryQ_bk, tryQ_ct, tasQ_ex, tasQ_rt, tasQ_nx, tasQ_bk, tasQ_ct, has_some, sl_0, sl_s, st_0, st_s, v_add, v_sub, v_neg, v_lt, v_le, v_gt, v_ge, v_eqi, v_nei, v_is, v_isNot, v_len, v_lenT, v_abs, v_int, v_item, v_itemT, v_list, v_max, v_min, v_repr, blD_bl, truD_bl, truD_lst, isF_int, isF_bl, isF_non, isF_tup, isF_str, isF_lf, isF_lk, isF_lo, isF_ll, at_0, at_1, at_2, ix_0, ix_1, ix_2, cap_i, cap_t, noL_i, noL_n, noL_b, noL_t, ck_0, ck_s, lk_0, lk_1, lk_2, lk_3, lk_4, ln_0, ln_1, ln_2, ln_3, ln_4, own_o, own_l, own_f, its_o, its_l, its_f, lend_o, lend_i, lend_b, lend_n, lend_s, lend_t, cap_k, cap_f, lend_l, lend_f, sh_o, sh_l, sh_f, sh_k, Bool.or_true, Bool.true_or, Bool.or_false, Bool.false_or, intD, isLst, lstO, List.set_cons_zero, List.set_cons_succ, bind_S, ty_i, ty_b, ty_s, ty_t, ty_l, ty_n, is_ii, is_ib, is_is, is_it, is_il, is_bi, is_bb, is_bs, is_bt, is_bl, is_si, is_sb, is_ss, is_st, is_sl, is_ti, is_tb, is_ts, is_tt, is_tl, is_li, is_lb, is_ls, is_lt, is_ll, is_ni, is_nb, is_ns, is_nt, is_nl, v_eqS, v_neS, v_inS, v_notInS, truD_n, truD_t, cap_o, cap_s, cap_n, cap_b, noL_s, its_t, own_t, own_s, its_s, sv_n, sv_i, sv_s, sv_b, isStr_s, isNon_n, isNon_i, isNon_s, isNon_t, isNon_l, v_tup, forL_0, kL_nx, kL_ct, kL_bk, kL_rt, kL_ex, tg_n, tg_t, tg_0, tg_s, wp_0, wp_s, bk_0, bk_s, rd_0, rd_s, sb_a, sb_l, si_a, si_l, hd_0, out_t, out_f, argD, ite_self, List.map_cons, List.map_nil, List.append_nil, List.cons_append, List.nil_append, Bool.and_true, Bool.true_and, Bool.not_true, Bool.not_false, Bool.and_false, Bool.false_and, true_and, and_true, decide_eq_true_eq, Bool.false_eq_true, if_false, if_true, ite_true, ite_false, reduceIte, Bool.not_eq_true', Bool.true_eq_false, eq_self]
  exact ⟨rfl, _, rfl, xs, p', v', q1, by simp at q2; omega, rfl, rfl⟩
theorem set_enc (xs : Sp) (j : Nat) (w : Row) : (xs.map pr).set j (enc w) = ((xs.map two').set j w).map enc := by
  rw [List.map_set, enc_two]
theorem cap_enc (w : Row) : cap (enc w) = enc w := by cases w <;> rfl
theorem isF_enc (w : Row) : isF (enc w) = true := by cases w <;> rfl
theorem len9 {a b c d e f g h i : D} : ([a, b, c, d, e, f, g, h, i].length ≤ 1000) = True := eq_true (by simp)
theorem len13 {a b c d e f g h i j k l m : D} : ([a, b, c, d, e, f, g, h, i, j, k, l, m].length ≤ 1000) = True := eq_true (by simp)
theorem ne_p (xs : Sp) : gNe [spD .o xs, .lst .o []] = some (.bl (!decide (xs = []))) := v_neNil (f := pr) eqD_p (fun _ => by simp [dp, dpL, pr])
theorem at_idx {α : Type} {xs : List α} {n : Nat} (h : n < xs.length) : L2.atI xs (n : Int) = some xs[n] := by
  unfold L2.atI L2.ixN
  rw [if_pos (by omega), if_pos (by omega)]
  simp [h]
theorem at_mem {α : Type} (xs : List α) (r : Int) (h : 0 ≤ r) (h2 : r < xs.length) : ∃ a ∈ xs, L2.atI xs r = some a := by
  obtain ⟨n, rfl⟩ := Int.eq_ofNat_of_zero_le h
  have hn : n < xs.length := by omega
  refine ⟨xs[n], List.getElem_mem hn, ?_⟩
  unfold L2.atI L2.ixN
  rw [if_pos (by omega), if_pos (by omega)]
  simp [hn]
theorem ok_rows (ns : List Int) (p : Nat) (v : Int) (hv : 0 ≤ v) : ∃ d s, (∃ (xs : List Row) (p' : Nat) (v' : Int), 0 ≤ v' ∧ xs.length ≤ 61 ∧ d = rwD .o xs ∧ s = some (stt ns p' v')) ∧ F__law_rows [stt ns p v] = some (.ok d, [s]) := by
  unfold F__law_rows
  refine drawn rfl ?_
  show Go ev__law_rows [some (stt ns p v), none, none, none, none, none, none, none] _
  unfold ev__law_rows
  obtain ⟨r1, p1, v1, h1, h2, h3, e1⟩ := take_ok ns p v 3 hv (by omega) (by omega)
  obtain ⟨Hz, hm, eH⟩ := at_mem [D.int 20, D.int 200, D.int 19999] r1 h1 (by simpa using h2)
  obtain ⟨hz, rfl, hz2⟩ : ∃ z, Hz = .int z ∧ 0 ≤ z ∧ z ≤ 20000 := by
    simp at hm
    rcases hm with rfl | rfl | rfl
    · exact ⟨_, rfl, by decide, by decide⟩
    · exact ⟨_, rfl, by decide, by decide⟩
    · exact ⟨_, rfl, by decide, by decide⟩
  obtain ⟨_, _, ⟨xs, p2, v2, h4, l4, rfl, rfl⟩, e2⟩ := ok_spans ns p1 v1 hz hz2 h3
  refine step [some (stt ns p2 v2), some (spD .o xs), none, none, none, none, none, none] (fun k Q hk => ?_) ?_
  · simp only [e_cst, e_nil, e_yes, e_var, e_fv, e_mv, e_cons, e_dfr, e_op, e_tup, e_lst, e_tr, e_notT, e_andT, e_orT, e_andV, e_orV, e_notV, e_opq, e_if, e_call, e_callM, e_chain, e_src, e_rng, e_lc, g_nx, g_retN, g_brk, g_cnt, g_seq, g_drop, g_ret, g_asg, g_if, g_for, g_app, g_set, kk_ok, kS_ok, kQ_nx, kQ_rt, kQ_bk, kQ_ct, kk_ex, kS_ex, kQ_ex, g_raise, e_isi, g_asgT, e_grd, g_try, g_tryAs, g_appT, e_chainN, lkQ_1, lkQ_2, noX_rt, noX_nx, noX_bk, noX_ct, hdQ_0, hdQ_s, tryQ_ex, tryQ_rt, tryQ_nx, tryQ_bk, tryQ_ct, tasQ_ex, tasQ_rt, tasQ_nx, tasQ_bk, tasQ_ct, has_some, sl_0, sl_s, st_0, st_s, v_add, v_sub, v_neg, v_lt, v_le, v_gt, v_ge, v_eqi, v_nei, v_is, v_isNot, v_len, v_lenT, v_abs, v_int, v_item, v_itemT, v_list, v_max, v_min, v_repr, blD_bl, truD_bl, truD_lst, isF_int, isF_bl, isF_non, isF_tup, isF_str, isF_lf, isF_lk, isF_lo, isF_ll, at_0, at_1, at_2, ix_0, ix_1, ix_2, cap_i, cap_t, noL_i, noL_n, noL_b, noL_t, ck_0, ck_s, lk_0, lk_1, lk_2, lk_3, lk_4, ln_0, ln_1, ln_2, ln_3, ln_4, own_o, own_l, own_f, its_o, its_l, its_f, lend_o, lend_i, lend_b, lend_n, lend_s, lend_t, cap_k, cap_f, lend_l, lend_f, sh_o, sh_l, sh_f, sh_k, Bool.or_true, Bool.true_or, Bool.or_false, Bool.false_or, intD, isLst, lstO, List.set_cons_zero, List.set_cons_succ, bind_S, ty_i, ty_b, ty_s, ty_t, ty_l, ty_n, is_ii, is_ib, is_is, is_it, is_il, is_bi, is_bb, is_bs, is_bt, is_bl, is_si, is_sb, is_ss, is_st, is_sl, is_ti, is_tb, is_ts, is_tt, is_tl, is_li, is_lb, is_ls, is_lt, is_ll, is_ni, is_nb, is_ns, is_nt, is_nl, v_eqS, v_neS, v_inS, v_notInS, truD_n, truD_t, cap_o, cap_s, cap_n, cap_b, noL_s, its_t, own_t, own_s, its_s, sv_n, sv_i, sv_s, sv_b, isStr_s, isNon_n, isNon_i, isNon_s, isNon_t, isNon_l, v_tup, forL_0, kL_nx, kL_ct, kL_bk, kL_rt, kL_ex, tg_n, tg_t, tg_0, tg_s, wp_0, wp_s, bk_0, bk_s, rd_0, rd_s, sb_a, sb_l, si_a, si_l, hd_0, out_t, out_f, argD, ite_self, List.map_cons, List.map_nil, List.append_nil, List.cons_append, List.nil_append, Bool.and_true, Bool.true_and, Bool.not_true, Bool.not_false, Bool.and_false, Bool.false_and, true_and, and_true, decide_eq_true_eq, Bool.false_eq_true, if_false, if_true, ite_true, ite_false, reduceIte, Bool.not_eq_true', Bool.true_eq_false, eq_self, e1, eH, e2]
    exact hk
  obtain ⟨r3, p3, v3, h5, h6, h7, e3⟩ := take_ok ns p2 v2 12 h4 (by omega) (by omega)
  refine stepE (fun δ' => ∃ (xs : Sp) (p' : Nat) (v' : Int) (a : Option D), 0 ≤ v' ∧ xs.length ≤ 61 ∧ δ' = [some (stt ns p' v'), some (spD .o xs), a, none, none, none, none, none]) (fun QQ h => ?_) ?_
  · by_cases h0 : r3 = 0
    · obtain ⟨r4, p4, v4, h8, h9, h10, e4⟩ := take_ok ns p3 v3 3 h7 (by omega) (by omega)
      simp only [e_cst, e_nil, e_yes, e_var, e_fv, e_mv, e_cons, e_dfr, e_op, e_tup, e_lst, e_tr, e_notT, e_andT, e_orT, e_andV, e_orV, e_notV, e_opq, e_if, e_call, e_callM, e_chain, e_src, e_rng, e_lc, g_nx, g_retN, g_brk, g_cnt, g_seq, g_drop, g_ret, g_asg, g_if, g_for, g_app, g_set, kk_ok, kS_ok, kQ_nx, kQ_rt, kQ_bk, kQ_ct, kk_ex, kS_ex, kQ_ex, g_raise, e_isi, g_asgT, e_grd, g_try, g_tryAs, g_appT, e_chainN, lkQ_1, lkQ_2, noX_rt, noX_nx, noX_bk, noX_ct, hdQ_0, hdQ_s, tryQ_ex, tryQ_rt, tryQ_nx, tryQ_bk, tryQ_ct, tasQ_ex, tasQ_rt, tasQ_nx, tasQ_bk, tasQ_ct, has_some, sl_0, sl_s, st_0, st_s, v_add, v_sub, v_neg, v_lt, v_le, v_gt, v_ge, v_eqi, v_nei, v_is, v_isNot, v_len, v_lenT, v_abs, v_int, v_item, v_itemT, v_list, v_max, v_min, v_repr, blD_bl, truD_bl, truD_lst, isF_int, isF_bl, isF_non, isF_tup, isF_str, isF_lf, isF_lk, isF_lo, isF_ll, at_0, at_1, at_2, ix_0, ix_1, ix_2, cap_i, cap_t, noL_i, noL_n, noL_b, noL_t, ck_0, ck_s, lk_0, lk_1, lk_2, lk_3, lk_4, ln_0, ln_1, ln_2, ln_3, ln_4, own_o, own_l, own_f, its_o, its_l, its_f, lend_o, lend_i, lend_b, lend_n, lend_s, lend_t, cap_k, cap_f, lend_l, lend_f, sh_o, sh_l, sh_f, sh_k, Bool.or_true, Bool.true_or, Bool.or_false, Bool.false_or, intD, isLst, lstO, List.set_cons_zero, List.set_cons_succ, bind_S, ty_i, ty_b, ty_s, ty_t, ty_l, ty_n, is_ii, is_ib, is_is, is_it, is_il, is_bi, is_bb, is_bs, is_bt, is_bl, is_si, is_sb, is_ss, is_st, is_sl, is_ti, is_tb, is_ts, is_tt, is_tl, is_li, is_lb, is_ls, is_lt, is_ll, is_ni, is_nb, is_ns, is_nt, is_nl, v_eqS, v_neS, v_inS, v_notInS, truD_n, truD_t, cap_o, cap_s, cap_n, cap_b, noL_s, its_t, own_t, own_s, its_s, sv_n, sv_i, sv_s, sv_b, isStr_s, isNon_n, isNon_i, isNon_s, isNon_t, isNon_l, v_tup, forL_0, kL_nx, kL_ct, kL_bk, kL_rt, kL_ex, tg_n, tg_t, tg_0, tg_s, wp_0, wp_s, bk_0, bk_s, rd_0, rd_s, sb_a, sb_l, si_a, si_l, hd_0, out_t, out_f, argD, ite_self, List.map_cons, List.map_nil, List.append_nil, List.cons_append, List.nil_append, Bool.and_true, Bool.true_and, Bool.not_true, Bool.not_false, Bool.and_false, Bool.false_and, true_and, and_true, decide_eq_true_eq, Bool.false_eq_true, if_false, if_true, ite_true, ite_false, reduceIte, Bool.not_eq_true', Bool.true_eq_false, eq_self, e3, h0, e4, rng1_i (59 + r4) ⟨by omega, by omega⟩, decide_true]
      refine has_cmpA (fun k : Int => (3 * k, 3 * k + 1)) pr cap_pr (mins 0 (59 + r4).toNat) (by rw [mins_len]; omega) (fun q hq => ?_) ?_
      · have em : gMul [.int 3, .int q] = some (.int (3 * q)) := v_mul (mulL (by decide))
        simp only [ct__law_rows_0, ce__law_rows_1, e_cst, e_nil, e_yes, e_var, e_fv, e_mv, e_cons, e_dfr, e_op, e_tup, e_lst, e_tr, e_notT, e_andT, e_orT, e_andV, e_orV, e_notV, e_opq, e_if, e_call, e_callM, e_chain, e_src, e_rng, e_lc, g_nx, g_retN, g_brk, g_cnt, g_seq, g_drop, g_ret, g_asg, g_if, g_for, g_app, g_set, kk_ok, kS_ok, kQ_nx, kQ_rt, kQ_bk, kQ_ct, kk_ex, kS_ex, kQ_ex, g_raise, e_isi, g_asgT, e_grd, g_try, g_tryAs, g_appT, e_chainN, lkQ_1, lkQ_2, noX_rt, noX_nx, noX_bk, noX_ct, hdQ_0, hdQ_s, tryQ_ex, tryQ_rt, tryQ_nx, tryQ_bk, tryQ_ct, tasQ_ex, tasQ_rt, tasQ_nx, tasQ_bk, tasQ_ct, has_some, sl_0, sl_s, st_0, st_s, v_add, v_sub, v_neg, v_lt, v_le, v_gt, v_ge, v_eqi, v_nei, v_is, v_isNot, v_len, v_lenT, v_abs, v_int, v_item, v_itemT, v_list, v_max, v_min, v_repr, blD_bl, truD_bl, truD_lst, isF_int, isF_bl, isF_non, isF_tup, isF_str, isF_lf, isF_lk, isF_lo, isF_ll, at_0, at_1, at_2, ix_0, ix_1, ix_2, cap_i, cap_t, noL_i, noL_n, noL_b, noL_t, ck_0, ck_s, lk_0, lk_1, lk_2, lk_3, lk_4, ln_0, ln_1, ln_2, ln_3, ln_4, own_o, own_l, own_f, its_o, its_l, its_f, lend_o, lend_i, lend_b, lend_n, lend_s, lend_t, cap_k, cap_f, lend_l, lend_f, sh_o, sh_l, sh_f, sh_k, Bool.or_true, Bool.true_or, Bool.or_false, Bool.false_or, intD, isLst, lstO, List.set_cons_zero, List.set_cons_succ, bind_S, ty_i, ty_b, ty_s, ty_t, ty_l, ty_n, is_ii, is_ib, is_is, is_it, is_il, is_bi, is_bb, is_bs, is_bt, is_bl, is_si, is_sb, is_ss, is_st, is_sl, is_ti, is_tb, is_ts, is_tt, is_tl, is_li, is_lb, is_ls, is_lt, is_ll, is_ni, is_nb, is_ns, is_nt, is_nl, v_eqS, v_neS, v_inS, v_notInS, truD_n, truD_t, cap_o, cap_s, cap_n, cap_b, noL_s, its_t, own_t, own_s, its_s, sv_n, sv_i, sv_s, sv_b, isStr_s, isNon_n, isNon_i, isNon_s, isNon_t, isNon_l, v_tup, forL_0, kL_nx, kL_ct, kL_bk, kL_rt, kL_ex, tg_n, tg_t, tg_0, tg_s, wp_0, wp_s, bk_0, bk_s, rd_0, rd_s, sb_a, sb_l, si_a, si_l, hd_0, out_t, out_f, argD, ite_self, List.map_cons, List.map_nil, List.append_nil, List.cons_append, List.nil_append, Bool.and_true, Bool.true_and, Bool.not_true, Bool.not_false, Bool.and_false, Bool.false_and, true_and, and_true, decide_eq_true_eq, Bool.false_eq_true, if_false, if_true, ite_true, ite_false, reduceIte, Bool.not_eq_true', Bool.true_eq_false, eq_self, em]
        rfl
      · simp only [e_cst, e_nil, e_yes, e_var, e_fv, e_mv, e_cons, e_dfr, e_op, e_tup, e_lst, e_tr, e_notT, e_andT, e_orT, e_andV, e_orV, e_notV, e_opq, e_if, e_call, e_callM, e_chain, e_src, e_rng, e_lc, g_nx, g_retN, g_brk, g_cnt, g_seq, g_drop, g_ret, g_asg, g_if, g_for, g_app, g_set, kk_ok, kS_ok, kQ_nx, kQ_rt, kQ_bk, kQ_ct, kk_ex, kS_ex, kQ_ex, g_raise, e_isi, g_asgT, e_grd, g_try, g_tryAs, g_appT, e_chainN, lkQ_1, lkQ_2, noX_rt, noX_nx, noX_bk, noX_ct, hdQ_0, hdQ_s, tryQ_ex, tryQ_rt, tryQ_nx, tryQ_bk, tryQ_ct, tasQ_ex, tasQ_rt, tasQ_nx, tasQ_bk, tasQ_ct, has_some, sl_0, sl_s, st_0, st_s, v_add, v_sub, v_neg, v_lt, v_le, v_gt, v_ge, v_eqi, v_nei, v_is, v_isNot, v_len, v_lenT, v_abs, v_int, v_item, v_itemT, v_list, v_max, v_min, v_repr, blD_bl, truD_bl, truD_lst, isF_int, isF_bl, isF_non, isF_tup, isF_str, isF_lf, isF_lk, isF_lo, isF_ll, at_0, at_1, at_2, ix_0, ix_1, ix_2, cap_i, cap_t, noL_i, noL_n, noL_b, noL_t, ck_0, ck_s, lk_0, lk_1, lk_2, lk_3, lk_4, ln_0, ln_1, ln_2, ln_3, ln_4, own_o, own_l, own_f, its_o, its_l, its_f, lend_o, lend_i, lend_b, lend_n, lend_s, lend_t, cap_k, cap_f, lend_l, lend_f, sh_o, sh_l, sh_f, sh_k, Bool.or_true, Bool.true_or, Bool.or_false, Bool.false_or, intD, isLst, lstO, List.set_cons_zero, List.set_cons_succ, bind_S, ty_i, ty_b, ty_s, ty_t, ty_l, ty_n, is_ii, is_ib, is_is, is_it, is_il, is_bi, is_bb, is_bs, is_bt, is_bl, is_si, is_sb, is_ss, is_st, is_sl, is_ti, is_tb, is_ts, is_tt, is_tl, is_li, is_lb, is_ls, is_lt, is_ll, is_ni, is_nb, is_ns, is_nt, is_nl, v_eqS, v_neS, v_inS, v_notInS, truD_n, truD_t, cap_o, cap_s, cap_n, cap_b, noL_s, its_t, own_t, own_s, its_s, sv_n, sv_i, sv_s, sv_b, isStr_s, isNon_n, isNon_i, isNon_s, isNon_t, isNon_l, v_tup, forL_0, kL_nx, kL_ct, kL_bk, kL_rt, kL_ex, tg_n, tg_t, tg_0, tg_s, wp_0, wp_s, bk_0, bk_s, rd_0, rd_s, sb_a, sb_l, si_a, si_l, hd_0, out_t, out_f, argD, ite_self, List.map_cons, List.map_nil, List.append_nil, List.cons_append, List.nil_append, Bool.and_true, Bool.true_and, Bool.not_true, Bool.not_false, Bool.and_false, Bool.false_and, true_and, and_true, decide_eq_true_eq, Bool.false_eq_true, if_false, if_true, ite_true, ite_false, reduceIte, Bool.not_eq_true', Bool.true_eq_false, eq_self]
        refine h _ ⟨_, p4, v4, _, h10, ?_, rfl⟩
        rw [List.length_map, mins_len]; omega
    · simp only [e_cst, e_nil, e_yes, e_var, e_fv, e_mv, e_cons, e_dfr, e_op, e_tup, e_lst, e_tr, e_notT, e_andT, e_orT, e_andV, e_orV, e_notV, e_opq, e_if, e_call, e_callM, e_chain, e_src, e_rng, e_lc, g_nx, g_retN, g_brk, g_cnt, g_seq, g_drop, g_ret, g_asg, g_if, g_for, g_app, g_set, kk_ok, kS_ok, kQ_nx, kQ_rt, kQ_bk, kQ_ct, kk_ex, kS_ex, kQ_ex, g_raise, e_isi, g_asgT, e_grd, g_try, g_tryAs, g_appT, e_chainN, lkQ_1, lkQ_2, noX_rt, noX_nx, noX_bk, noX_ct, hdQ_0, hdQ_s, tryQ_ex, tryQ_rt, tryQ_nx, tryQ_bk, tryQ_ct, tasQ_ex, tasQ_rt, tasQ_nx, tasQ_bk, tasQ_ct, has_some, sl_0, sl_s, st_0, st_s, v_add, v_sub, v_neg, v_lt, v_le, v_gt, v_ge, v_eqi, v_nei, v_is, v_isNot, v_len, v_lenT, v_abs, v_int, v_item, v_itemT, v_list, v_max, v_min, v_repr, blD_bl, truD_bl, truD_lst, isF_int, isF_bl, isF_non, isF_tup, isF_str, isF_lf, isF_lk, isF_lo, isF_ll, at_0, at_1, at_2, ix_0, ix_1, ix_2, cap_i, cap_t, noL_i, noL_n, noL_b, noL_t, ck_0, ck_s, lk_0, lk_1, lk_2, lk_3, lk_4, ln_0, ln_1, ln_2, ln_3, ln_4, own_o, own_l, own_f, its_o, its_l, its_f, lend_o, lend_i, lend_b, lend_n, lend_s, lend_t, cap_k, cap_f, lend_l, lend_f, sh_o, sh_l, sh_f, sh_k, Bool.or_true, Bool.true_or, Bool.or_false, Bool.false_or, intD, isLst, lstO, List.set_cons_zero, List.set_cons_succ, bind_S, ty_i, ty_b, ty_s, ty_t, ty_l, ty_n, is_ii, is_ib, is_is, is_it, is_il, is_bi, is_bb, is_bs, is_bt, is_bl, is_si, is_sb, is_ss, is_st, is_sl, is_ti, is_tb, is_ts, is_tt, is_tl, is_li, is_lb, is_ls, is_lt, is_ll, is_ni, is_nb, is_ns, is_nt, is_nl, v_eqS, v_neS, v_inS, v_notInS, truD_n, truD_t, cap_o, cap_s, cap_n, cap_b, noL_s, its_t, own_t, own_s, its_s, sv_n, sv_i, sv_s, sv_b, isStr_s, isNon_n, isNon_i, isNon_s, isNon_t, isNon_l, v_tup, forL_0, kL_nx, kL_ct, kL_bk, kL_rt, kL_ex, tg_n, tg_t, tg_0, tg_s, wp_0, wp_s, bk_0, bk_s, rd_0, rd_s, sb_a, sb_l, si_a, si_l, hd_0, out_t, out_f, argD, ite_self, List.map_cons, List.map_nil, List.append_nil, List.cons_append, List.nil_append, Bool.and_true, Bool.true_and, Bool.not_true, Bool.not_false, Bool.and_false, Bool.false_and, true_and, and_true, decide_eq_true_eq, Bool.false_eq_true, if_false, if_true, ite_true, ite_false, reduceIte, Bool.not_eq_true', Bool.true_eq_false, eq_self, e3, h0]
      exact h _ ⟨xs, p3, v3, none, h7, by omega, rfl⟩
  rintro _ ⟨xs, p4, v4, a, hv4, l4, rfl⟩
  have fin : ∀ (ys : List Row) (p : Nat) (v : Int) (a3 a4 a5 a6 : Option D), 0 ≤ v → ys.length ≤ 61 → Go (evSeq (evRet (evMv 1)) evNx) [some (stt ns p v), some (rwD .o ys), a, a3, a4, a5, a6, none] fun o δ => ∃ d, o = .rt d ∧ ∃ (xs : List Row) (p' : Nat) (v' : Int), 0 ≤ v' ∧ xs.length ≤ 61 ∧ d = rwD .o xs ∧ hd0 δ = some (stt ns p' v') := by
    intro ys p v a3 a4 a5 a6 hv hl
    simp only [e_cst, e_nil, e_yes, e_var, e_fv, e_mv, e_cons, e_dfr, e_op, e_tup, e_lst, e_tr, e_notT, e_andT, e_orT, e_andV, e_orV, e_notV, e_opq, e_if, e_call, e_callM, e_chain, e_src, e_rng, e_lc, g_nx, g_retN, g_brk, g_cnt, g_seq, g_drop, g_ret, g_asg, g_if, g_for, g_app, g_set, kk_ok, kS_ok, kQ_nx, kQ_rt, kQ_bk, kQ_ct, kk_ex, kS_ex, kQ_ex, g_raise, e_isi, g_asgT, e_grd, g_try, g_tryAs, g_appT, e_chainN, lkQ_1, lkQ_2, noX_rt, noX_nx, noX_bk, noX_ct, hdQ_0, hdQ_s, tryQ_ex, tryQ_rt, tryQ_nx, tryQ_bk, tryQ_ct, tasQ_ex, tasQ_rt, tasQ_nx, tasQ_bk, tasQ_ct, has_some, sl_0, sl_s, st_0, st_s, v_add, v_sub, v_neg, v_lt, v_le, v_gt, v_ge, v_eqi, v_nei, v_is, v_isNot, v_len, v_lenT, v_abs, v_int, v_item, v_itemT, v_list, v_max, v_min, v_repr, blD_bl, truD_bl, truD_lst, isF_int, isF_bl, isF_non, isF_tup, isF_str, isF_lf, isF_lk, isF_lo, isF_ll, at_0, at_1, at_2, ix_0, ix_1, ix_2, cap_i, cap_t, noL_i, noL_n, noL_b, noL_t, ck_0, ck_s, lk_0, lk_1, lk_2, lk_3, lk_4, ln_0, ln_1, ln_2, ln_3, ln_4, own_o, own_l, own_f, its_o, its_l, its_f, lend_o, lend_i, lend_b, lend_n, lend_s, lend_t, cap_k, cap_f, lend_l, lend_f, sh_o, sh_l, sh_f, sh_k, Bool.or_true, Bool.true_or, Bool.or_false, Bool.false_or, intD, isLst, lstO, List.set_cons_zero, List.set_cons_succ, bind_S, ty_i, ty_b, ty_s, ty_t, ty_l, ty_n, is_ii, is_ib, is_is, is_it, is_il, is_bi, is_bb, is_bs, is_bt, is_bl, is_si, is_sb, is_ss, is_st, is_sl, is_ti, is_tb, is_ts, is_tt, is_tl, is_li, is_lb, is_ls, is_lt, is_ll, is_ni, is_nb, is_ns, is_nt, is_nl, v_eqS, v_neS, v_inS, v_notInS, truD_n, truD_t, cap_o, cap_s, cap_n, cap_b, noL_s, its_t, own_t, own_s, its_s, sv_n, sv_i, sv_s, sv_b, isStr_s, isNon_n, isNon_i, isNon_s, isNon_t, isNon_l, v_tup, forL_0, kL_nx, kL_ct, kL_bk, kL_rt, kL_ex, tg_n, tg_t, tg_0, tg_s, wp_0, wp_s, bk_0, bk_s, rd_0, rd_s, sb_a, sb_l, si_a, si_l, hd_0, out_t, out_f, argD, ite_self, List.map_cons, List.map_nil, List.append_nil, List.cons_append, List.nil_append, Bool.and_true, Bool.true_and, Bool.not_true, Bool.not_false, Bool.and_false, Bool.false_and, true_and, and_true, decide_eq_true_eq, Bool.false_eq_true, if_false, if_true, ite_true, ite_false, reduceIte, Bool.not_eq_true', Bool.true_eq_false, eq_self]
    exact ⟨rfl, _, rfl, ys, p, v, hv, hl, rfl, rfl⟩
  have same : ∀ (p : Nat) (v : Int), 0 ≤ v → Go (evSeq (evRet (evMv 1)) evNx) [some (stt ns p v), some (spD .o xs), a, none, none, none, none, none] fun o δ => ∃ d, o = .rt d ∧ ∃ (xs : List Row) (p' : Nat) (v' : Int), 0 ≤ v' ∧ xs.length ≤ 61 ∧ d = rwD .o xs ∧ hd0 δ = some (stt ns p' v') := by
    intro p v hv
    have := fin (xs.map two') p v none none none none hv (by simpa using l4)
    unfold rwD at this
    rw [enc_two] at this
    exact this
  by_cases hx : xs = []
  · refine step [some (stt ns p4 v4), some (spD .o xs), a, none, none, none, none, none] (fun k Q hk => ?_) (same p4 v4 hv4)
    simp only [e_cst, e_nil, e_yes, e_var, e_fv, e_mv, e_cons, e_dfr, e_op, e_tup, e_lst, e_tr, e_notT, e_andT, e_orT, e_andV, e_orV, e_notV, e_opq, e_if, e_call, e_callM, e_chain, e_src, e_rng, e_lc, g_nx, g_retN, g_brk, g_cnt, g_seq, g_drop, g_ret, g_asg, g_if, g_for, g_app, g_set, kk_ok, kS_ok, kQ_nx, kQ_rt, kQ_bk, kQ_ct, kk_ex, kS_ex, kQ_ex, g_raise, e_isi, g_asgT, e_grd, g_try, g_tryAs, g_appT, e_chainN, lkQ_1, lkQ_2, noX_rt, noX_nx, noX_bk, noX_ct, hdQ_0, hdQ_s, tryQ_ex, tryQ_rt, tryQ_nx, tryQ_bk, tryQ_ct, tasQ_ex, tasQ_rt, tasQ_nx, tasQ_bk, tasQ_ct, has_some, sl_0, sl_s, st_0, st_s, v_add, v_sub, v_neg, v_lt, v_le, v_gt, v_ge, v_eqi, v_nei, v_is, v_isNot, v_len, v_lenT, v_abs, v_int, v_item, v_itemT, v_list, v_max, v_min, v_repr, blD_bl, truD_bl, truD_lst, isF_int, isF_bl, isF_non, isF_tup, isF_str, isF_lf, isF_lk, isF_lo, isF_ll, at_0, at_1, at_2, ix_0, ix_1, ix_2, cap_i, cap_t, noL_i, noL_n, noL_b, noL_t, ck_0, ck_s, lk_0, lk_1, lk_2, lk_3, lk_4, ln_0, ln_1, ln_2, ln_3, ln_4, own_o, own_l, own_f, its_o, its_l, its_f, lend_o, lend_i, lend_b, lend_n, lend_s, lend_t, cap_k, cap_f, lend_l, lend_f, sh_o, sh_l, sh_f, sh_k, Bool.or_true, Bool.true_or, Bool.or_false, Bool.false_or, intD, isLst, lstO, List.set_cons_zero, List.set_cons_succ, bind_S, ty_i, ty_b, ty_s, ty_t, ty_l, ty_n, is_ii, is_ib, is_is, is_it, is_il, is_bi, is_bb, is_bs, is_bt, is_bl, is_si, is_sb, is_ss, is_st, is_sl, is_ti, is_tb, is_ts, is_tt, is_tl, is_li, is_lb, is_ls, is_lt, is_ll, is_ni, is_nb, is_ns, is_nt, is_nl, v_eqS, v_neS, v_inS, v_notInS, truD_n, truD_t, cap_o, cap_s, cap_n, cap_b, noL_s, its_t, own_t, own_s, its_s, sv_n, sv_i, sv_s, sv_b, isStr_s, isNon_n, isNon_i, isNon_s, isNon_t, isNon_l, v_tup, forL_0, kL_nx, kL_ct, kL_bk, kL_rt, kL_ex, tg_n, tg_t, tg_0, tg_s, wp_0, wp_s, bk_0, bk_s, rd_0, rd_s, sb_a, sb_l, si_a, si_l, hd_0, out_t, out_f, argD, ite_self, List.map_cons, List.map_nil, List.append_nil, List.cons_append, List.nil_append, Bool.and_true, Bool.true_and, Bool.not_true, Bool.not_false, Bool.and_false, Bool.false_and, true_and, and_true, decide_eq_true_eq, Bool.false_eq_true, if_false, if_true, ite_true, ite_false, reduceIte, Bool.not_eq_true', Bool.true_eq_false, eq_self, ne_p, hx, decide_true]
    rw [hx] at hk
    exact hk
  obtain ⟨r5, p5, v5, h8, h9, h10, e5⟩ := take_ok ns p4 v4 2 hv4 (by omega) (by omega)
  by_cases h0 : r5 = 0
  · have lx : 0 < xs.length := List.length_pos_iff.mpr hx
    obtain ⟨r6, p6, v6, h11, h12, h13, e6⟩ := take_ok ns p5 v5 xs.length h10 (by omega) (by omega)
    obtain ⟨j, rfl⟩ := Int.eq_ofNat_of_zero_le h11
    have hj : j < xs.length := by omega
    obtain ⟨b, hb⟩ : ∃ b, b = xs[j] := ⟨_, rfl⟩
    have ej : L2.atI (xs.map pr) (j : Int) = some (.tup [.int b.1, .int b.2]) := by
      rw [at_nat (by simpa using hj)]
      simp [hb, pr]
    obtain ⟨r7, p7, v7, k1, k2, k3, e7⟩ := take_ok ns p6 v6 9 h13 (by omega) (by omega)
    let bad : List Row := [.two b.2 b.1, .two b.1 (b.2 + 1), .two b.1 20000, .two b.1 20001, .two (0 - 1) b.2, .one b.1, .li b.1 b.2, .tru b.2, .two b.1 b.1]
    obtain ⟨w, hw, ew⟩ := at_mem bad r7 k1 (by simpa [bad] using k2)
    have ew2 : L2.atI [D.tup [.int b.2, .int b.1], .tup [.int b.1, .int (b.2 + 1)], .tup [.int b.1, .int 20000], .tup [.int b.1, .int 20001], .tup [.int (0 - 1), .int b.2], .tup [.int b.1], .lst .f [.int b.1, .int b.2], .tup [.bl true, .int b.2], .tup [.int b.1, .int b.1]] r7 = some (enc w) := by
      show L2.atI (bad.map enc) r7 = _
      obtain ⟨n, rfl⟩ := Int.eq_ofNat_of_zero_le k1
      have hn : n < bad.length := by simp [bad]; omega
      rw [at_idx hn] at ew
      rw [at_idx (by simpa using hn), List.getElem_map, Option.some.inj ew]
    have ix : L2.ixN (xs.map pr).length (j : Int) = some j := ixN_lit (by simpa using hj)
    refine step [some (stt ns p7 v7), some (rwD .o ((xs.map two').set j w)), a, some (.int j), some (.lst .o [D.tup [.int b.2, .int b.1], .tup [.int b.1, .int (b.2 + 1)], .tup [.int b.1, .int 20000], .tup [.int b.1, .int 20001], .tup [.int (0 - 1), .int b.2], .tup [.int b.1], .lst .f [.int b.1, .int b.2], .tup [.bl true, .int b.2], .tup [.int b.1, .int b.1]]), some (.int b.1), some (.int b.2), none] (fun k Q hk => ?_) (fin _ p7 v7 _ _ _ _ k3 (by simpa using l4))
    simp only [e_cst, e_nil, e_yes, e_var, e_fv, e_mv, e_cons, e_dfr, e_op, e_tup, e_lst, e_tr, e_notT, e_andT, e_orT, e_andV, e_orV, e_notV, e_opq, e_if, e_call, e_callM, e_chain, e_src, e_rng, e_lc, g_nx, g_retN, g_brk, g_cnt, g_seq, g_drop, g_ret, g_asg, g_if, g_for, g_app, g_set, kk_ok, kS_ok, kQ_nx, kQ_rt, kQ_bk, kQ_ct, kk_ex, kS_ex, kQ_ex, g_raise, e_isi, g_asgT, e_grd, g_try, g_tryAs, g_appT, e_chainN, lkQ_1, lkQ_2, noX_rt, noX_nx, noX_bk, noX_ct, hdQ_0, hdQ_s, tryQ_ex, tryQ_rt, tryQ_nx, tryQ_bk, tryQ_ct, tasQ_ex, tasQ_rt, tasQ_nx, tasQ_bk, tasQ_ct, has_some, sl_0, sl_s, st_0, st_s, v_add, v_sub, v_neg, v_lt, v_le, v_gt, v_ge, v_eqi, v_nei, v_is, v_isNot, v_len, v_lenT, v_abs, v_int, v_item, v_itemT, v_list, v_max, v_min, v_repr, blD_bl, truD_bl, truD_lst, isF_int, isF_bl, isF_non, isF_tup, isF_str, isF_lf, isF_lk, isF_lo, isF_ll, at_0, at_1, at_2, ix_0, ix_1, ix_2, cap_i, cap_t, noL_i, noL_n, noL_b, noL_t, ck_0, ck_s, lk_0, lk_1, lk_2, lk_3, lk_4, ln_0, ln_1, ln_2, ln_3, ln_4, own_o, own_l, own_f, its_o, its_l, its_f, lend_o, lend_i, lend_b, lend_n, lend_s, lend_t, cap_k, cap_f, lend_l, lend_f, sh_o, sh_l, sh_f, sh_k, Bool.or_true, Bool.true_or, Bool.or_false, Bool.false_or, intD, isLst, lstO, List.set_cons_zero, List.set_cons_succ, bind_S, ty_i, ty_b, ty_s, ty_t, ty_l, ty_n, is_ii, is_ib, is_is, is_it, is_il, is_bi, is_bb, is_bs, is_bt, is_bl, is_si, is_sb, is_ss, is_st, is_sl, is_ti, is_tb, is_ts, is_tt, is_tl, is_li, is_lb, is_ls, is_lt, is_ll, is_ni, is_nb, is_ns, is_nt, is_nl, v_eqS, v_neS, v_inS, v_notInS, truD_n, truD_t, cap_o, cap_s, cap_n, cap_b, noL_s, its_t, own_t, own_s, its_s, sv_n, sv_i, sv_s, sv_b, isStr_s, isNon_n, isNon_i, isNon_s, isNon_t, isNon_l, v_tup, forL_0, kL_nx, kL_ct, kL_bk, kL_rt, kL_ex, tg_n, tg_t, tg_0, tg_s, wp_0, wp_s, bk_0, bk_s, rd_0, rd_s, sb_a, sb_l, si_a, si_l, hd_0, out_t, out_f, argD, ite_self, List.map_cons, List.map_nil, List.append_nil, List.cons_append, List.nil_append, Bool.and_true, Bool.true_and, Bool.not_true, Bool.not_false, Bool.and_false, Bool.false_and, true_and, and_true, decide_eq_true_eq, Bool.false_eq_true, if_false, if_true, ite_true, ite_false, reduceIte, Bool.not_eq_true', Bool.true_eq_false, eq_self, ne_p, hx, decide_false, e5, h0, decide_true, List.length_map, e6, ej, len9]
    rw [e7]
    simp only [e_cst, e_nil, e_yes, e_var, e_fv, e_mv, e_cons, e_dfr, e_op, e_tup, e_lst, e_tr, e_notT, e_andT, e_orT, e_andV, e_orV, e_notV, e_opq, e_if, e_call, e_callM, e_chain, e_src, e_rng, e_lc, g_nx, g_retN, g_brk, g_cnt, g_seq, g_drop, g_ret, g_asg, g_if, g_for, g_app, g_set, kk_ok, kS_ok, kQ_nx, kQ_rt, kQ_bk, kQ_ct, kk_ex, kS_ex, kQ_ex, g_raise, e_isi, g_asgT, e_grd, g_try, g_tryAs, g_appT, e_chainN, lkQ_1, lkQ_2, noX_rt, noX_nx, noX_bk, noX_ct, hdQ_0, hdQ_s, tryQ_ex, tryQ_rt, tryQ_nx, tryQ_bk, tryQ_ct, tasQ_ex, tasQ_rt, tasQ_nx, tasQ_bk, tasQ_ct, has_some, sl_0, sl_s, st_0, st_s, v_add, v_sub, v_neg, v_lt, v_le, v_gt, v_ge, v_eqi, v_nei, v_is, v_isNot, v_len, v_lenT, v_abs, v_int, v_item, v_itemT, v_list, v_max, v_min, v_repr, blD_bl, truD_bl, truD_lst, isF_int, isF_bl, isF_non, isF_tup, isF_str, isF_lf, isF_lk, isF_lo, isF_ll, at_0, at_1, at_2, ix_0, ix_1, ix_2, cap_i, cap_t, noL_i, noL_n, noL_b, noL_t, ck_0, ck_s, lk_0, lk_1, lk_2, lk_3, lk_4, ln_0, ln_1, ln_2, ln_3, ln_4, own_o, own_l, own_f, its_o, its_l, its_f, lend_o, lend_i, lend_b, lend_n, lend_s, lend_t, cap_k, cap_f, lend_l, lend_f, sh_o, sh_l, sh_f, sh_k, Bool.or_true, Bool.true_or, Bool.or_false, Bool.false_or, intD, isLst, lstO, List.set_cons_zero, List.set_cons_succ, bind_S, ty_i, ty_b, ty_s, ty_t, ty_l, ty_n, is_ii, is_ib, is_is, is_it, is_il, is_bi, is_bb, is_bs, is_bt, is_bl, is_si, is_sb, is_ss, is_st, is_sl, is_ti, is_tb, is_ts, is_tt, is_tl, is_li, is_lb, is_ls, is_lt, is_ll, is_ni, is_nb, is_ns, is_nt, is_nl, v_eqS, v_neS, v_inS, v_notInS, truD_n, truD_t, cap_o, cap_s, cap_n, cap_b, noL_s, its_t, own_t, own_s, its_s, sv_n, sv_i, sv_s, sv_b, isStr_s, isNon_n, isNon_i, isNon_s, isNon_t, isNon_l, v_tup, forL_0, kL_nx, kL_ct, kL_bk, kL_rt, kL_ex, tg_n, tg_t, tg_0, tg_s, wp_0, wp_s, bk_0, bk_s, rd_0, rd_s, sb_a, sb_l, si_a, si_l, hd_0, out_t, out_f, argD, ite_self, List.map_cons, List.map_nil, List.append_nil, List.cons_append, List.nil_append, Bool.and_true, Bool.true_and, Bool.not_true, Bool.not_false, Bool.and_false, Bool.false_and, true_and, and_true, decide_eq_true_eq, Bool.false_eq_true, if_false, if_true, ite_true, ite_false, reduceIte, Bool.not_eq_true', Bool.true_eq_false, eq_self, len9, ew2, isF_enc, cap_enc, ix, set_enc]
    exact hk
  · refine step [some (stt ns p5 v5), some (spD .o xs), a, none, none, none, none, none] (fun k Q hk => ?_) (same p5 v5 h10)
    simp only [e_cst, e_nil, e_yes, e_var, e_fv, e_mv, e_cons, e_dfr, e_op, e_tup, e_lst, e_tr, e_notT, e_andT, e_orT, e_andV, e_orV, e_notV, e_opq, e_if, e_call, e_callM, e_chain, e_src, e_rng, e_lc, g_nx, g_retN, g_brk, g_cnt, g_seq, g_drop, g_ret, g_asg, g_if, g_for, g_app, g_set, kk_ok, kS_ok, kQ_nx, kQ_rt, kQ_bk, kQ_ct, kk_ex, kS_ex, kQ_ex, g_raise, e_isi, g_asgT, e_grd, g_try, g_tryAs, g_appT, e_chainN, lkQ_1, lkQ_2, noX_rt, noX_nx, noX_bk, noX_ct, hdQ_0, hdQ_s, tryQ_ex, tryQ_rt, tryQ_nx, tryQ_bk, tryQ_ct, tasQ_ex, tasQ_rt, tasQ_nx, tasQ_bk, tasQ_ct, has_some, sl_0, sl_s, st_0, st_s, v_add, v_sub, v_neg, v_lt, v_le, v_gt, v_ge, v_eqi, v_nei, v_is, v_isNot, v_len, v_lenT, v_abs, v_int, v_item, v_itemT, v_list, v_max, v_min, v_repr, blD_bl, truD_bl, truD_lst, isF_int, isF_bl, isF_non, isF_tup, isF_str, isF_lf, isF_lk, isF_lo, isF_ll, at_0, at_1, at_2, ix_0, ix_1, ix_2, cap_i, cap_t, noL_i, noL_n, noL_b, noL_t, ck_0, ck_s, lk_0, lk_1, lk_2, lk_3, lk_4, ln_0, ln_1, ln_2, ln_3, ln_4, own_o, own_l, own_f, its_o, its_l, its_f, lend_o, lend_i, lend_b, lend_n, lend_s, lend_t, cap_k, cap_f, lend_l, lend_f, sh_o, sh_l, sh_f, sh_k, Bool.or_true, Bool.true_or, Bool.or_false, Bool.false_or, intD, isLst, lstO, List.set_cons_zero, List.set_cons_succ, bind_S, ty_i, ty_b, ty_s, ty_t, ty_l, ty_n, is_ii, is_ib, is_is, is_it, is_il, is_bi, is_bb, is_bs, is_bt, is_bl, is_si, is_sb, is_ss, is_st, is_sl, is_ti, is_tb, is_ts, is_tt, is_tl, is_li, is_lb, is_ls, is_lt, is_ll, is_ni, is_nb, is_ns, is_nt, is_nl, v_eqS, v_neS, v_inS, v_notInS, truD_n, truD_t, cap_o, cap_s, cap_n, cap_b, noL_s, its_t, own_t, own_s, its_s, sv_n, sv_i, sv_s, sv_b, isStr_s, isNon_n, isNon_i, isNon_s, isNon_t, isNon_l, v_tup, forL_0, kL_nx, kL_ct, kL_bk, kL_rt, kL_ex, tg_n, tg_t, tg_0, tg_s, wp_0, wp_s, bk_0, bk_s, rd_0, rd_s, sb_a, sb_l, si_a, si_l, hd_0, out_t, out_f, argD, ite_self, List.map_cons, List.map_nil, List.append_nil, List.cons_append, List.nil_append, Bool.and_true, Bool.true_and, Bool.not_true, Bool.not_false, Bool.and_false, Bool.false_and, true_and, and_true, decide_eq_true_eq, Bool.false_eq_true, if_false, if_true, ite_true, ite_false, reduceIte, Bool.not_eq_true', Bool.true_eq_false, eq_self, ne_p, hx, decide_false, e5, h0]
    exact hk
theorem lits : [Str.ofString "5", Str.ofString "5-6-7", Str.ofString "-", Str.ofString "05-9", Str.ofString "9-5", Str.ofString "5-x", Str.ofString "7-20001", Str.ofString ""] = [S [53], S [53, 45, 54, 45, 55], S [45], S [48, 53, 45, 57], S [57, 45, 53], S [53, 45, 120], S [55, 45, 50, 48, 48, 48, 49], S []] := by decide +kernel
theorem lp_text {ns : List Int} {K : ES → Prop} : ∀ (ks : List Int) (w : List Nat) (p : Nat) (v : Int) (a b c : Option D), 0 ≤ v → w.length + 50 * ks.length ≤ 250 →
    (∀ (w : List Nat) (p' : Nat) (v' : Int) (a b c : Option D), 0 ≤ v' → w.length ≤ 250 → K (.nx, [some (stt ns p' v'), some (.str (S w)), a, b, c])) →
    has (evForL (tgName 2) bd__law_text_0 (ks.map .int) [some (stt ns p v), some (.str (S w)), a, b, c]) K
  | [], w, p, v, a, b, c, hv, hl, h => by
    simp only [e_cst, e_nil, e_yes, e_var, e_fv, e_mv, e_cons, e_dfr, e_op, e_tup, e_lst, e_tr, e_notT, e_andT, e_orT, e_andV, e_orV, e_notV, e_opq, e_if, e_call, e_callM, e_chain, e_src, e_rng, e_lc, g_nx, g_retN, g_brk, g_cnt, g_seq, g_drop, g_ret, g_asg, g_if, g_for, g_app, g_set, kk_ok, kS_ok, kQ_nx, kQ_rt, kQ_bk, kQ_ct, kk_ex, kS_ex, kQ_ex, g_raise, e_isi, g_asgT, e_grd, g_try, g_tryAs, g_appT, e_chainN, lkQ_1, lkQ_2, noX_rt, noX_nx, noX_bk, noX_ct, hdQ_0, hdQ_s, tryQ_ex, tryQ_rt, tryQ_nx, tryQ_bk, tryQ_ct, tasQ_ex, tasQ_rt, tasQ_nx, tasQ_bk, tasQ_ct, has_some, sl_0, sl_s, st_0, st_s, v_add, v_sub, v_neg, v_lt, v_le, v_gt, v_ge, v_eqi, v_nei, v_is, v_isNot, v_len, v_lenT, v_abs, v_int, v_item, v_itemT, v_list, v_max, v_min, v_repr, blD_bl, truD_bl, truD_lst, isF_int, isF_bl, isF_non, isF_tup, isF_str, isF_lf, isF_lk, isF_lo, isF_ll, at_0, at_1, at_2, ix_0, ix_1, ix_2, cap_i, cap_t, noL_i, noL_n, noL_b, noL_t, ck_0, ck_s, lk_0, lk_1, lk_2, lk_3, lk_4, ln_0, ln_1, ln_2, ln_3, ln_4, own_o, own_l, own_f, its_o, its_l, its_f, lend_o, lend_i, lend_b, lend_n, lend_s, lend_t, cap_k, cap_f, lend_l, lend_f, sh_o, sh_l, sh_f, sh_k, Bool.or_true, Bool.true_or, Bool.or_false, Bool.false_or, intD, isLst, lstO, List.set_cons_zero, List.set_cons_succ, bind_S, ty_i, ty_b, ty_s, ty_t, ty_l, ty_n, is_ii, is_ib, is_is, is_it, is_il, is_bi, is_bb, is_bs, is_bt, is_bl, is_si, is_sb, is_ss, is_st, is_sl, is_ti, is_tb, is_ts, is_tt, is_tl, is_li, is_lb, is_ls, is_lt, is_ll, is_ni, is_nb, is_ns, is_nt, is_nl, v_eqS, v_neS, v_inS, v_notInS, truD_n, truD_t, cap_o, cap_s, cap_n, cap_b, noL_s, its_t, own_t, own_s, its_s, sv_n, sv_i, sv_s, sv_b, isStr_s, isNon_n, isNon_i, isNon_s, isNon_t, isNon_l, v_tup, forL_0, kL_nx, kL_ct, kL_bk, kL_rt, kL_ex, tg_n, tg_t, tg_0, tg_s, wp_0, wp_s, bk_0, bk_s, rd_0, rd_s, sb_a, sb_l, si_a, si_l, hd_0, out_t, out_f, argD, ite_self, List.map_cons, List.map_nil, List.append_nil, List.cons_append, List.nil_append, Bool.and_true, Bool.true_and, Bool.not_true, Bool.not_false, Bool.and_false, Bool.false_and, true_and, and_true, decide_eq_true_eq, Bool.false_eq_true, if_false, if_true, ite_true, ite_false, reduceIte, Bool.not_eq_true', Bool.true_eq_false, eq_self]
    exact h w p v a b c hv (by simpa using hl)
  | k :: r, w, p, v, a, b, c, hv, hl, h => by
    simp only [List.length_cons] at hl
    obtain ⟨r1, p1, v1, h1, h2, h3, e1⟩ := take_ok ns p v 30 hv (by omega) (by omega)
    obtain ⟨r2, p2, v2, h4, h5, h6, e2⟩ := take_ok ns p1 v1 9 h3 (by omega) (by omega)
    obtain ⟨r3, p3, v3, h7, h8, h9, e3⟩ := take_ok ns p2 v2 13 h6 (by omega) (by omega)
    rw [List.map_cons, forL_s, tg_n, has_some]
    simp only [st_s, st_0]
    unfold bd__law_text_0
    refine step [some (stt ns p1 v1), some (.str (S w)), some (.int k), some (.int r1), c] (fun k Q hk => ?_) ?_
    · simp only [e_cst, e_nil, e_yes, e_var, e_fv, e_mv, e_cons, e_dfr, e_op, e_tup, e_lst, e_tr, e_notT, e_andT, e_orT, e_andV, e_orV, e_notV, e_opq, e_if, e_call, e_callM, e_chain, e_src, e_rng, e_lc, g_nx, g_retN, g_brk, g_cnt, g_seq, g_drop, g_ret, g_asg, g_if, g_for, g_app, g_set, kk_ok, kS_ok, kQ_nx, kQ_rt, kQ_bk, kQ_ct, kk_ex, kS_ex, kQ_ex, g_raise, e_isi, g_asgT, e_grd, g_try, g_tryAs, g_appT, e_chainN, lkQ_1, lkQ_2, noX_rt, noX_nx, noX_bk, noX_ct, hdQ_0, hdQ_s, tryQ_ex, tryQ_rt, tryQ_nx, tryQ_bk, tryQ_ct, tasQ_ex, tasQ_rt, tasQ_nx, tasQ_bk, tasQ_ct, has_some, sl_0, sl_s, st_0, st_s, v_add, v_sub, v_neg, v_lt, v_le, v_gt, v_ge, v_eqi, v_nei, v_is, v_isNot, v_len, v_lenT, v_abs, v_int, v_item, v_itemT, v_list, v_max, v_min, v_repr, blD_bl, truD_bl, truD_lst, isF_int, isF_bl, isF_non, isF_tup, isF_str, isF_lf, isF_lk, isF_lo, isF_ll, at_0, at_1, at_2, ix_0, ix_1, ix_2, cap_i, cap_t, noL_i, noL_n, noL_b, noL_t, ck_0, ck_s, lk_0, lk_1, lk_2, lk_3, lk_4, ln_0, ln_1, ln_2, ln_3, ln_4, own_o, own_l, own_f, its_o, its_l, its_f, lend_o, lend_i, lend_b, lend_n, lend_s, lend_t, cap_k, cap_f, lend_l, lend_f, sh_o, sh_l, sh_f, sh_k, Bool.or_true, Bool.true_or, Bool.or_false, Bool.false_or, intD, isLst, lstO, List.set_cons_zero, List.set_cons_succ, bind_S, ty_i, ty_b, ty_s, ty_t, ty_l, ty_n, is_ii, is_ib, is_is, is_it, is_il, is_bi, is_bb, is_bs, is_bt, is_bl, is_si, is_sb, is_ss, is_st, is_sl, is_ti, is_tb, is_ts, is_tt, is_tl, is_li, is_lb, is_ls, is_lt, is_ll, is_ni, is_nb, is_ns, is_nt, is_nl, v_eqS, v_neS, v_inS, v_notInS, truD_n, truD_t, cap_o, cap_s, cap_n, cap_b, noL_s, its_t, own_t, own_s, its_s, sv_n, sv_i, sv_s, sv_b, isStr_s, isNon_n, isNon_i, isNon_s, isNon_t, isNon_l, v_tup, forL_0, kL_nx, kL_ct, kL_bk, kL_rt, kL_ex, tg_n, tg_t, tg_0, tg_s, wp_0, wp_s, bk_0, bk_s, rd_0, rd_s, sb_a, sb_l, si_a, si_l, hd_0, out_t, out_f, argD, ite_self, List.map_cons, List.map_nil, List.append_nil, List.cons_append, List.nil_append, Bool.and_true, Bool.true_and, Bool.not_true, Bool.not_false, Bool.and_false, Bool.false_and, true_and, and_true, decide_eq_true_eq, Bool.false_eq_true, if_false, if_true, ite_true, ite_false, reduceIte, Bool.not_eq_true', Bool.true_eq_false, eq_self, e1]
      exact hk
    have l1 := numL_5 h1 (by omega)
    have l2 := numL_5 (i := r1 + r2) (by omega) (by omega)
    let parts : List (List Nat) := [TL.numL r1.toNat ++ [45] ++ TL.numL (r1 + r2).toNat, [53], [53, 45, 54, 45, 55], [45], [48, 53, 45, 57], [57, 45, 53], [53, 45, 120], [55, 45, 50, 48, 48, 48, 49], []]
    have a1 : gAdd [.str (S (TL.numL r1.toNat)), .str (S [45])] = some (.str (S (TL.numL r1.toNat ++ [45]))) := add_S (by simp; omega)
    have a2 : gAdd [.str (S (TL.numL r1.toNat ++ [45])), .str (S (TL.numL (r1 + r2).toNat))] = some (.str (S (TL.numL r1.toNat ++ [45] ++ TL.numL (r1 + r2).toNat))) := add_S (by simp; omega)
    obtain ⟨j, hj, ej⟩ : ∃ j : Int, (0 ≤ j ∧ j < 9) ∧ L2.atI [D.int 0, .int 0, .int 0, .int 0, .int 0, .int 1, .int 2, .int 3, .int 4, .int 5, .int 6, .int 7, .int 8] r3 = some (.int j) := by
      obtain ⟨d, hm, e⟩ := at_mem [D.int 0, .int 0, .int 0, .int 0, .int 0, .int 1, .int 2, .int 3, .int 4, .int 5, .int 6, .int 7, .int 8] r3 h7 (by simpa using h8)
      simp at hm
      rcases hm with rfl | rfl | rfl | rfl | rfl | rfl | rfl | rfl | rfl <;> exact ⟨_, by decide, e⟩
    obtain ⟨q, hq, eq⟩ := at_mem parts j hj.1 (by simpa [parts] using hj.2)
    have lq : q.length ≤ 40 := by
      simp only [parts, List.mem_cons, List.not_mem_nil, or_false] at hq
      rcases hq with rfl | rfl | rfl | rfl | rfl | rfl | rfl | rfl | rfl <;> simp <;> omega
    have eq2 : L2.atI (parts.map stD) j = some (stD q) := by
      obtain ⟨n, rfl⟩ := Int.eq_ofNat_of_zero_le hj.1
      have hn : n < parts.length := by simp [parts]; omega
      rw [at_idx hn] at eq
      rw [at_idx (by simpa using hn), List.getElem_map, Option.some.inj eq]
    have li := lits
    simp only [List.cons.injEq, and_true] at li
    obtain ⟨i1, i2, i3, i4, i5, i6, i7, i8⟩ := li
    refine step [some (stt ns p3 v3), some (.str (S w)), some (.int k), some (.int r1), some (stD q)] (fun k Q hk => ?_) ?_
    · have z := eq2
      simp only [parts, List.map_cons, List.map_nil, stD] at z
      simp only [e_cst, e_nil, e_yes, e_var, e_fv, e_mv, e_cons, e_dfr, e_op, e_tup, e_lst, e_tr, e_notT, e_andT, e_orT, e_andV, e_orV, e_notV, e_opq, e_if, e_call, e_callM, e_chain, e_src, e_rng, e_lc, g_nx, g_retN, g_brk, g_cnt, g_seq, g_drop, g_ret, g_asg, g_if, g_for, g_app, g_set, kk_ok, kS_ok, kQ_nx, kQ_rt, kQ_bk, kQ_ct, kk_ex, kS_ex, kQ_ex, g_raise, e_isi, g_asgT, e_grd, g_try, g_tryAs, g_appT, e_chainN, lkQ_1, lkQ_2, noX_rt, noX_nx, noX_bk, noX_ct, hdQ_0, hdQ_s, tryQ_ex, tryQ_rt, tryQ_nx, tryQ_bk, tryQ_ct, tasQ_ex, tasQ_rt, tasQ_nx, tasQ_bk, tasQ_ct, has_some, sl_0, sl_s, st_0, st_s, v_add, v_sub, v_neg, v_lt, v_le, v_gt, v_ge, v_eqi, v_nei, v_is, v_isNot, v_len, v_lenT, v_abs, v_int, v_item, v_itemT, v_list, v_max, v_min, v_repr, blD_bl, truD_bl, truD_lst, isF_int, isF_bl, isF_non, isF_tup, isF_str, isF_lf, isF_lk, isF_lo, isF_ll, at_0, at_1, at_2, ix_0, ix_1, ix_2, cap_i, cap_t, noL_i, noL_n, noL_b, noL_t, ck_0, ck_s, lk_0, lk_1, lk_2, lk_3, lk_4, ln_0, ln_1, ln_2, ln_3, ln_4, own_o, own_l, own_f, its_o, its_l, its_f, lend_o, lend_i, lend_b, lend_n, lend_s, lend_t, cap_k, cap_f, lend_l, lend_f, sh_o, sh_l, sh_f, sh_k, Bool.or_true, Bool.true_or, Bool.or_false, Bool.false_or, intD, isLst, lstO, List.set_cons_zero, List.set_cons_succ, bind_S, ty_i, ty_b, ty_s, ty_t, ty_l, ty_n, is_ii, is_ib, is_is, is_it, is_il, is_bi, is_bb, is_bs, is_bt, is_bl, is_si, is_sb, is_ss, is_st, is_sl, is_ti, is_tb, is_ts, is_tt, is_tl, is_li, is_lb, is_ls, is_lt, is_ll, is_ni, is_nb, is_ns, is_nt, is_nl, v_eqS, v_neS, v_inS, v_notInS, truD_n, truD_t, cap_o, cap_s, cap_n, cap_b, noL_s, its_t, own_t, own_s, its_s, sv_n, sv_i, sv_s, sv_b, isStr_s, isNon_n, isNon_i, isNon_s, isNon_t, isNon_l, v_tup, forL_0, kL_nx, kL_ct, kL_bk, kL_rt, kL_ex, tg_n, tg_t, tg_0, tg_s, wp_0, wp_s, bk_0, bk_s, rd_0, rd_s, sb_a, sb_l, si_a, si_l, hd_0, out_t, out_f, argD, ite_self, List.map_cons, List.map_nil, List.append_nil, List.cons_append, List.nil_append, Bool.and_true, Bool.true_and, Bool.not_true, Bool.not_false, Bool.and_false, Bool.false_and, true_and, and_true, decide_eq_true_eq, Bool.false_eq_true, if_false, if_true, ite_true, ite_false, reduceIte, Bool.not_eq_true', Bool.true_eq_false, eq_self, e2, str_num h1 (by omega : r1 ≤ 20000), str_num (by omega : 0 ≤ r1 + r2) (by omega : r1 + r2 ≤ 20000), i1, i2, i3, i4, i5, i6, i7, i8, a1, a2, len9, e3, len13, ej, z]
      exact hk
    have add1 : gAdd [.str (S w), .str (S [44])] = some (.str (S (w ++ [44]))) := add_S (by simp; omega)
    have add2 : gAdd [.str (S (w ++ [44])), .str (S q)] = some (.str (S (w ++ [44] ++ q))) := add_S (by simp; omega)
    by_cases h0 : k = 0
    · refine step [some (stt ns p3 v3), some (.str (S q)), some (.int k), some (.int r1), some (stD q)] (fun k Q hk => ?_) ?_
      · unfold stD at hk ⊢
        simp only [e_cst, e_nil, e_yes, e_var, e_fv, e_mv, e_cons, e_dfr, e_op, e_tup, e_lst, e_tr, e_notT, e_andT, e_orT, e_andV, e_orV, e_notV, e_opq, e_if, e_call, e_callM, e_chain, e_src, e_rng, e_lc, g_nx, g_retN, g_brk, g_cnt, g_seq, g_drop, g_ret, g_asg, g_if, g_for, g_app, g_set, kk_ok, kS_ok, kQ_nx, kQ_rt, kQ_bk, kQ_ct, kk_ex, kS_ex, kQ_ex, g_raise, e_isi, g_asgT, e_grd, g_try, g_tryAs, g_appT, e_chainN, lkQ_1, lkQ_2, noX_rt, noX_nx, noX_bk, noX_ct, hdQ_0, hdQ_s, tryQ_ex, tryQ_rt, tryQ_nx, tryQ_bk, tryQ_ct, tasQ_ex, tasQ_rt, tasQ_nx, tasQ_bk, tasQ_ct, has_some, sl_0, sl_s, st_0, st_s, v_add, v_sub, v_neg, v_lt, v_le, v_gt, v_ge, v_eqi, v_nei, v_is, v_isNot, v_len, v_lenT, v_abs, v_int, v_item, v_itemT, v_list, v_max, v_min, v_repr, blD_bl, truD_bl, truD_lst, isF_int, isF_bl, isF_non, isF_tup, isF_str, isF_lf, isF_lk, isF_lo, isF_ll, at_0, at_1, at_2, ix_0, ix_1, ix_2, cap_i, cap_t, noL_i, noL_n, noL_b, noL_t, ck_0, ck_s, lk_0, lk_1, lk_2, lk_3, lk_4, ln_0, ln_1, ln_2, ln_3, ln_4, own_o, own_l, own_f, its_o, its_l, its_f, lend_o, lend_i, lend_b, lend_n, lend_s, lend_t, cap_k, cap_f, lend_l, lend_f, sh_o, sh_l, sh_f, sh_k, Bool.or_true, Bool.true_or, Bool.or_false, Bool.false_or, intD, isLst, lstO, List.set_cons_zero, List.set_cons_succ, bind_S, ty_i, ty_b, ty_s, ty_t, ty_l, ty_n, is_ii, is_ib, is_is, is_it, is_il, is_bi, is_bb, is_bs, is_bt, is_bl, is_si, is_sb, is_ss, is_st, is_sl, is_ti, is_tb, is_ts, is_tt, is_tl, is_li, is_lb, is_ls, is_lt, is_ll, is_ni, is_nb, is_ns, is_nt, is_nl, v_eqS, v_neS, v_inS, v_notInS, truD_n, truD_t, cap_o, cap_s, cap_n, cap_b, noL_s, its_t, own_t, own_s, its_s, sv_n, sv_i, sv_s, sv_b, isStr_s, isNon_n, isNon_i, isNon_s, isNon_t, isNon_l, v_tup, forL_0, kL_nx, kL_ct, kL_bk, kL_rt, kL_ex, tg_n, tg_t, tg_0, tg_s, wp_0, wp_s, bk_0, bk_s, rd_0, rd_s, sb_a, sb_l, si_a, si_l, hd_0, out_t, out_f, argD, ite_self, List.map_cons, List.map_nil, List.append_nil, List.cons_append, List.nil_append, Bool.and_true, Bool.true_and, Bool.not_true, Bool.not_false, Bool.and_false, Bool.false_and, true_and, and_true, decide_eq_true_eq, Bool.false_eq_true, if_false, if_true, ite_true, ite_false, reduceIte, Bool.not_eq_true', Bool.true_eq_false, eq_self, h0, decide_true]
        rw [h0] at hk
        exact hk
      simp only [e_cst, e_nil, e_yes, e_var, e_fv, e_mv, e_cons, e_dfr, e_op, e_tup, e_lst, e_tr, e_notT, e_andT, e_orT, e_andV, e_orV, e_notV, e_opq, e_if, e_call, e_callM, e_chain, e_src, e_rng, e_lc, g_nx, g_retN, g_brk, g_cnt, g_seq, g_drop, g_ret, g_asg, g_if, g_for, g_app, g_set, kk_ok, kS_ok, kQ_nx, kQ_rt, kQ_bk, kQ_ct, kk_ex, kS_ex, kQ_ex, g_raise, e_isi, g_asgT, e_grd, g_try, g_tryAs, g_appT, e_chainN, lkQ_1, lkQ_2, noX_rt, noX_nx, noX_bk, noX_ct, hdQ_0, hdQ_s, tryQ_ex, tryQ_rt, tryQ_nx, tryQ_bk, tryQ_ct, tasQ_ex, tasQ_rt, tasQ_nx, tasQ_bk, tasQ_ct, has_some, sl_0, sl_s, st_0, st_s, v_add, v_sub, v_neg, v_lt, v_le, v_gt, v_ge, v_eqi, v_nei, v_is, v_isNot, v_len, v_lenT, v_abs, v_int, v_item, v_itemT, v_list, v_max, v_min, v_repr, blD_bl, truD_bl, truD_lst, isF_int, isF_bl, isF_non, isF_tup, isF_str, isF_lf, isF_lk, isF_lo, isF_ll, at_0, at_1, at_2, ix_0, ix_1, ix_2, cap_i, cap_t, noL_i, noL_n, noL_b, noL_t, ck_0, ck_s, lk_0, lk_1, lk_2, lk_3, lk_4, ln_0, ln_1, ln_2, ln_3, ln_4, own_o, own_l, own_f, its_o, its_l, its_f, lend_o, lend_i, lend_b, lend_n, lend_s, lend_t, cap_k, cap_f, lend_l, lend_f, sh_o, sh_l, sh_f, sh_k, Bool.or_true, Bool.true_or, Bool.or_false, Bool.false_or, intD, isLst, lstO, List.set_cons_zero, List.set_cons_succ, bind_S, ty_i, ty_b, ty_s, ty_t, ty_l, ty_n, is_ii, is_ib, is_is, is_it, is_il, is_bi, is_bb, is_bs, is_bt, is_bl, is_si, is_sb, is_ss, is_st, is_sl, is_ti, is_tb, is_ts, is_tt, is_tl, is_li, is_lb, is_ls, is_lt, is_ll, is_ni, is_nb, is_ns, is_nt, is_nl, v_eqS, v_neS, v_inS, v_notInS, truD_n, truD_t, cap_o, cap_s, cap_n, cap_b, noL_s, its_t, own_t, own_s, its_s, sv_n, sv_i, sv_s, sv_b, isStr_s, isNon_n, isNon_i, isNon_s, isNon_t, isNon_l, v_tup, forL_0, kL_nx, kL_ct, kL_bk, kL_rt, kL_ex, tg_n, tg_t, tg_0, tg_s, wp_0, wp_s, bk_0, bk_s, rd_0, rd_s, sb_a, sb_l, si_a, si_l, hd_0, out_t, out_f, argD, ite_self, List.map_cons, List.map_nil, List.append_nil, List.cons_append, List.nil_append, Bool.and_true, Bool.true_and, Bool.not_true, Bool.not_false, Bool.and_false, Bool.false_and, true_and, and_true, decide_eq_true_eq, Bool.false_eq_true, if_false, if_true, ite_true, ite_false, reduceIte, Bool.not_eq_true', Bool.true_eq_false, eq_self]
      exact lp_text r q p3 v3 _ _ _ h9 (by omega) h
    · refine step [some (stt ns p3 v3), some (.str (S (w ++ [44] ++ q))), some (.int k), some (.int r1), some (stD q)] (fun k Q hk => ?_) ?_
      · unfold stD at hk ⊢
        simp only [e_cst, e_nil, e_yes, e_var, e_fv, e_mv, e_cons, e_dfr, e_op, e_tup, e_lst, e_tr, e_notT, e_andT, e_orT, e_andV, e_orV, e_notV, e_opq, e_if, e_call, e_callM, e_chain, e_src, e_rng, e_lc, g_nx, g_retN, g_brk, g_cnt, g_seq, g_drop, g_ret, g_asg, g_if, g_for, g_app, g_set, kk_ok, kS_ok, kQ_nx, kQ_rt, kQ_bk, kQ_ct, kk_ex, kS_ex, kQ_ex, g_raise, e_isi, g_asgT, e_grd, g_try, g_tryAs, g_appT, e_chainN, lkQ_1, lkQ_2, noX_rt, noX_nx, noX_bk, noX_ct, hdQ_0, hdQ_s, tryQ_ex, tryQ_rt, tryQ_nx, tryQ_bk, tryQ_ct, tasQ_ex, tasQ_rt, tasQ_nx, tasQ_bk, tasQ_ct, has_some, sl_0, sl_s, st_0, st_s, v_add, v_sub, v_neg, v_lt, v_le, v_gt, v_ge, v_eqi, v_nei, v_is, v_isNot, v_len, v_lenT, v_abs, v_int, v_item, v_itemT, v_list, v_max, v_min, v_repr, blD_bl, truD_bl, truD_lst, isF_int, isF_bl, isF_non, isF_tup, isF_str, isF_lf, isF_lk, isF_lo, isF_ll, at_0, at_1, at_2, ix_0, ix_1, ix_2, cap_i, cap_t, noL_i, noL_n, noL_b, noL_t, ck_0, ck_s, lk_0, lk_1, lk_2, lk_3, lk_4, ln_0, ln_1, ln_2, ln_3, ln_4, own_o, own_l, own_f, its_o, its_l, its_f, lend_o, lend_i, lend_b, lend_n, lend_s, lend_t, cap_k, cap_f, lend_l, lend_f, sh_o, sh_l, sh_f, sh_k, Bool.or_true, Bool.true_or, Bool.or_false, Bool.false_or, intD, isLst, lstO, List.set_cons_zero, List.set_cons_succ, bind_S, ty_i, ty_b, ty_s, ty_t, ty_l, ty_n, is_ii, is_ib, is_is, is_it, is_il, is_bi, is_bb, is_bs, is_bt, is_bl, is_si, is_sb, is_ss, is_st, is_sl, is_ti, is_tb, is_ts, is_tt, is_tl, is_li, is_lb, is_ls, is_lt, is_ll, is_ni, is_nb, is_ns, is_nt, is_nl, v_eqS, v_neS, v_inS, v_notInS, truD_n, truD_t, cap_o, cap_s, cap_n, cap_b, noL_s, its_t, own_t, own_s, its_s, sv_n, sv_i, sv_s, sv_b, isStr_s, isNon_n, isNon_i, isNon_s, isNon_t, isNon_l, v_tup, forL_0, kL_nx, kL_ct, kL_bk, kL_rt, kL_ex, tg_n, tg_t, tg_0, tg_s, wp_0, wp_s, bk_0, bk_s, rd_0, rd_s, sb_a, sb_l, si_a, si_l, hd_0, out_t, out_f, argD, ite_self, List.map_cons, List.map_nil, List.append_nil, List.cons_append, List.nil_append, Bool.and_true, Bool.true_and, Bool.not_true, Bool.not_false, Bool.and_false, Bool.false_and, true_and, and_true, decide_eq_true_eq, Bool.false_eq_true, if_false, if_true, ite_true, ite_false, reduceIte, Bool.not_eq_true', Bool.true_eq_false, eq_self, h0, comma, add1, add2]
        exact hk
      simp only [e_cst, e_nil, e_yes, e_var, e_fv, e_mv, e_cons, e_dfr, e_op, e_tup, e_lst, e_tr, e_notT, e_andT, e_orT, e_andV, e_orV, e_notV, e_opq, e_if, e_call, e_callM, e_chain, e_src, e_rng, e_lc, g_nx, g_retN, g_brk, g_cnt, g_seq, g_drop, g_ret, g_asg, g_if, g_for, g_app, g_set, kk_ok, kS_ok, kQ_nx, kQ_rt, kQ_bk, kQ_ct, kk_ex, kS_ex, kQ_ex, g_raise, e_isi, g_asgT, e_grd, g_try, g_tryAs, g_appT, e_chainN, lkQ_1, lkQ_2, noX_rt, noX_nx, noX_bk, noX_ct, hdQ_0, hdQ_s, tryQ_ex, tryQ_rt, tryQ_nx, tryQ_bk, tryQ_ct, tasQ_ex, tasQ_rt, tasQ_nx, tasQ_bk, tasQ_ct, has_some, sl_0, sl_s, st_0, st_s, v_add, v_sub, v_neg, v_lt, v_le, v_gt, v_ge, v_eqi, v_nei, v_is, v_isNot, v_len, v_lenT, v_abs, v_int, v_item, v_itemT, v_list, v_max, v_min, v_repr, blD_bl, truD_bl, truD_lst, isF_int, isF_bl, isF_non, isF_tup, isF_str, isF_lf, isF_lk, isF_lo, isF_ll, at_0, at_1, at_2, ix_0, ix_1, ix_2, cap_i, cap_t, noL_i, noL_n, noL_b, noL_t, ck_0, ck_s, lk_0, lk_1, lk_2, lk_3, lk_4, ln_0, ln_1, ln_2, ln_3, ln_4, own_o, own_l, own_f, its_o, its_l, its_f, lend_o, lend_i, lend_b, lend_n, lend_s, lend_t, cap_k, cap_f, lend_l, lend_f, sh_o, sh_l, sh_f, sh_k, Bool.or_true, Bool.true_or, Bool.or_false, Bool.false_or, intD, isLst, lstO, List.set_cons_zero, List.set_cons_succ, bind_S, ty_i, ty_b, ty_s, ty_t, ty_l, ty_n, is_ii, is_ib, is_is, is_it, is_il, is_bi, is_bb, is_bs, is_bt, is_bl, is_si, is_sb, is_ss, is_st, is_sl, is_ti, is_tb, is_ts, is_tt, is_tl, is_li, is_lb, is_ls, is_lt, is_ll, is_ni, is_nb, is_ns, is_nt, is_nl, v_eqS, v_neS, v_inS, v_notInS, truD_n, truD_t, cap_o, cap_s, cap_n, cap_b, noL_s, its_t, own_t, own_s, its_s, sv_n, sv_i, sv_s, sv_b, isStr_s, isNon_n, isNon_i, isNon_s, isNon_t, isNon_l, v_tup, forL_0, kL_nx, kL_ct, kL_bk, kL_rt, kL_ex, tg_n, tg_t, tg_0, tg_s, wp_0, wp_s, bk_0, bk_s, rd_0, rd_s, sb_a, sb_l, si_a, si_l, hd_0, out_t, out_f, argD, ite_self, List.map_cons, List.map_nil, List.append_nil, List.cons_append, List.nil_append, Bool.and_true, Bool.true_and, Bool.not_true, Bool.not_false, Bool.and_false, Bool.false_and, true_and, and_true, decide_eq_true_eq, Bool.false_eq_true, if_false, if_true, ite_true, ite_false, reduceIte, Bool.not_eq_true', Bool.true_eq_false, eq_self]
      exact lp_text r _ p3 v3 _ _ _ h9 (by simp; omega) h
theorem ok_text (ns : List Int) (p : Nat) (v : Int) (hv : 0 ≤ v) : ∃ d s, (∃ (w : List Nat) (p' : Nat) (v' : Int), 0 ≤ v' ∧ w.length ≤ 250 ∧ d = .str (S w) ∧ s = some (stt ns p' v')) ∧ F__law_text [stt ns p v] = some (.ok d, [s]) := by
  unfold F__law_text
  refine drawn rfl ?_
  show Go ev__law_text [some (stt ns p v), none, none, none, none] _
  unfold ev__law_text
  have em : Str.ofString "" = S [] := by decide +kernel
  refine step [some (stt ns p v), some (.str (S [])), none, none, none] (fun k Q hk => ?_) ?_
  · simp only [e_cst, e_nil, e_yes, e_var, e_fv, e_mv, e_cons, e_dfr, e_op, e_tup, e_lst, e_tr, e_notT, e_andT, e_orT, e_andV, e_orV, e_notV, e_opq, e_if, e_call, e_callM, e_chain, e_src, e_rng, e_lc, g_nx, g_retN, g_brk, g_cnt, g_seq, g_drop, g_ret, g_asg, g_if, g_for, g_app, g_set, kk_ok, kS_ok, kQ_nx, kQ_rt, kQ_bk, kQ_ct, kk_ex, kS_ex, kQ_ex, g_raise, e_isi, g_asgT, e_grd, g_try, g_tryAs, g_appT, e_chainN, lkQ_1, lkQ_2, noX_rt, noX_nx, noX_bk, noX_ct, hdQ_0, hdQ_s, tryQ_ex, tryQ_rt, tryQ_nx, tryQ_bk, tryQ_ct, tasQ_ex, tasQ_rt, tasQ_nx, tasQ_bk, tasQ_ct, has_some, sl_0, sl_s, st_0, st_s, v_add, v_sub, v_neg, v_lt, v_le, v_gt, v_ge, v_eqi, v_nei, v_is, v_isNot, v_len, v_lenT, v_abs, v_int, v_item, v_itemT, v_list, v_max, v_min, v_repr, blD_bl, truD_bl, truD_lst, isF_int, isF_bl, isF_non, isF_tup, isF_str, isF_lf, isF_lk, isF_lo, isF_ll, at_0, at_1, at_2, ix_0, ix_1, ix_2, cap_i, cap_t, noL_i, noL_n, noL_b, noL_t, ck_0, ck_s, lk_0, lk_1, lk_2, lk_3, lk_4, ln_0, ln_1, ln_2, ln_3, ln_4, own_o, own_l, own_f, its_o, its_l, its_f, lend_o, lend_i, lend_b, lend_n, lend_s, lend_t, cap_k, cap_f, lend_l, lend_f, sh_o, sh_l, sh_f, sh_k, Bool.or_true, Bool.true_or, Bool.or_false, Bool.false_or, intD, isLst, lstO, List.set_cons_zero, List.set_cons_succ, bind_S, ty_i, ty_b, ty_s, ty_t, ty_l, ty_n, is_ii, is_ib, is_is, is_it, is_il, is_bi, is_bb, is_bs, is_bt, is_bl, is_si, is_sb, is_ss, is_st, is_sl, is_ti, is_tb, is_ts, is_tt, is_tl, is_li, is_lb, is_ls, is_lt, is_ll, is_ni, is_nb, is_ns, is_nt, is_nl, v_eqS, v_neS, v_inS, v_notInS, truD_n, truD_t, cap_o, cap_s, cap_n, cap_b, noL_s, its_t, own_t, own_s, its_s, sv_n, sv_i, sv_s, sv_b, isStr_s, isNon_n, isNon_i, isNon_s, isNon_t, isNon_l, v_tup, forL_0, kL_nx, kL_ct, kL_bk, kL_rt, kL_ex, tg_n, tg_t, tg_0, tg_s, wp_0, wp_s, bk_0, bk_s, rd_0, rd_s, sb_a, sb_l, si_a, si_l, hd_0, out_t, out_f, argD, ite_self, List.map_cons, List.map_nil, List.append_nil, List.cons_append, List.nil_append, Bool.and_true, Bool.true_and, Bool.not_true, Bool.not_false, Bool.and_false, Bool.false_and, true_and, and_true, decide_eq_true_eq, Bool.false_eq_true, if_false, if_true, ite_true, ite_false, reduceIte, Bool.not_eq_true', Bool.true_eq_false, eq_self, em]
    exact hk
  obtain ⟨r0, p0, v0, h1, h2, h3, e0⟩ := take_ok ns p v 4 hv (by omega) (by omega)
  simp only [e_cst, e_nil, e_yes, e_var, e_fv, e_mv, e_cons, e_dfr, e_op, e_tup, e_lst, e_tr, e_notT, e_andT, e_orT, e_andV, e_orV, e_notV, e_opq, e_if, e_call, e_callM, e_chain, e_src, e_rng, e_lc, g_nx, g_retN, g_brk, g_cnt, g_seq, g_drop, g_ret, g_asg, g_if, g_for, g_app, g_set, kk_ok, kS_ok, kQ_nx, kQ_rt, kQ_bk, kQ_ct, kk_ex, kS_ex, kQ_ex, g_raise, e_isi, g_asgT, e_grd, g_try, g_tryAs, g_appT, e_chainN, lkQ_1, lkQ_2, noX_rt, noX_nx, noX_bk, noX_ct, hdQ_0, hdQ_s, tryQ_ex, tryQ_rt, tryQ_nx, tryQ_bk, tryQ_ct, tasQ_ex, tasQ_rt, tasQ_nx, tasQ_bk, tasQ_ct, has_some, sl_0, sl_s, st_0, st_s, v_add, v_sub, v_neg, v_lt, v_le, v_gt, v_ge, v_eqi, v_nei, v_is, v_isNot, v_len, v_lenT, v_abs, v_int, v_item, v_itemT, v_list, v_max, v_min, v_repr, blD_bl, truD_bl, truD_lst, isF_int, isF_bl, isF_non, isF_tup, isF_str, isF_lf, isF_lk, isF_lo, isF_ll, at_0, at_1, at_2, ix_0, ix_1, ix_2, cap_i, cap_t, noL_i, noL_n, noL_b, noL_t, ck_0, ck_s, lk_0, lk_1, lk_2, lk_3, lk_4, ln_0, ln_1, ln_2, ln_3, ln_4, own_o, own_l, own_f, its_o, its_l, its_f, lend_o, lend_i, lend_b, lend_n, lend_s, lend_t, cap_k, cap_f, lend_l, lend_f, sh_o, sh_l, sh_f, sh_k, Bool.or_true, Bool.true_or, Bool.or_false, Bool.false_or, intD, isLst, lstO, List.set_cons_zero, List.set_cons_succ, bind_S, ty_i, ty_b, ty_s, ty_t, ty_l, ty_n, is_ii, is_ib, is_is, is_it, is_il, is_bi, is_bb, is_bs, is_bt, is_bl, is_si, is_sb, is_ss, is_st, is_sl, is_ti, is_tb, is_ts, is_tt, is_tl, is_li, is_lb, is_ls, is_lt, is_ll, is_ni, is_nb, is_ns, is_nt, is_nl, v_eqS, v_neS, v_inS, v_notInS, truD_n, truD_t, cap_o, cap_s, cap_n, cap_b, noL_s, its_t, own_t, own_s, its_s, sv_n, sv_i, sv_s, sv_b, isStr_s, isNon_n, isNon_i, isNon_s, isNon_t, isNon_l, v_tup, forL_0, kL_nx, kL_ct, kL_bk, kL_rt, kL_ex, tg_n, tg_t, tg_0, tg_s, wp_0, wp_s, bk_0, bk_s, rd_0, rd_s, sb_a, sb_l, si_a, si_l, hd_0, out_t, out_f, argD, ite_self, List.map_cons, List.map_nil, List.append_nil, List.cons_append, List.nil_append, Bool.and_true, Bool.true_and, Bool.not_true, Bool.not_false, Bool.and_false, Bool.false_and, true_and, and_true, decide_eq_true_eq, Bool.false_eq_true, if_false, if_true, ite_true, ite_false, reduceIte, Bool.not_eq_true', Bool.true_eq_false, eq_self, e0, rng1_i (1 + r0) ⟨by omega, by omega⟩]
  refine lp_text (mins 0 (1 + r0).toNat) [] p0 v0 none none none h3 (by rw [mins_len]; simp; omega) fun w p' v' a b c q1 q2 => ?_
  simp only [e_cst, e_nil, e_yes, e_var, e_fv, e_mv, e_cons, e_dfr, e_op, e_tup, e_lst, e_tr, e_notT, e_andT, e_orT, e_andV, e_orV, e_notV, e_opq, e_if, e_call, e_callM, e_chain, e_src, e_rng, e_lc, g_nx, g_retN, g_brk, g_cnt, g_seq, g_drop, g_ret, g_asg, g_if, g_for, g_app, g_set, kk_ok, kS_ok, kQ_nx, kQ_rt, kQ_bk, kQ_ct, kk_ex, kS_ex, kQ_ex, g_raise, e_isi, g_asgT, e_grd, g_try, g_tryAs, g_appT, e_chainN, lkQ_1, lkQ_2, noX_rt, noX_nx, noX_bk, noX_ct, hdQ_0, hdQ_s, tryQ_ex, tryQ_rt, tryQ_nx, tryQ_bk, tryQ_ct, tasQ_ex, tasQ_rt, tasQ_nx, tasQ_bk, tasQ_ct, has_some, sl_0, sl_s, st_0, st_s, v_add, v_sub, v_neg, v_lt, v_le, v_gt, v_ge, v_eqi, v_nei, v_is, v_isNot, v_len, v_lenT, v_abs, v_int, v_item, v_itemT, v_list, v_max, v_min, v_repr, blD_bl, truD_bl, truD_lst, isF_int, isF_bl, isF_non, isF_tup, isF_str, isF_lf, isF_lk, isF_lo, isF_ll, at_0, at_1, at_2, ix_0, ix_1, ix_2, cap_i, cap_t, noL_i, noL_n, noL_b, noL_t, ck_0, ck_s, lk_0, lk_1, lk_2, lk_3, lk_4, ln_0, ln_1, ln_2, ln_3, ln_4, own_o, own_l, own_f, its_o, its_l, its_f, lend_o, lend_i, lend_b, lend_n, lend_s, lend_t, cap_k, cap_f, lend_l, lend_f, sh_o, sh_l, sh_f, sh_k, Bool.or_true, Bool.true_or, Bool.or_false, Bool.false_or, intD, isLst, lstO, List.set_cons_zero, List.set_cons_succ, bind_S, ty_i, ty_b, ty_s, ty_t, ty_l, ty_n, is_ii, is_ib, is_is, is_it, is_il, is_bi, is_bb, is_bs, is_bt, is_bl, is_si, is_sb, is_ss, is_st, is_sl, is_ti, is_tb, is_ts, is_tt, is_tl, is_li, is_lb, is_ls, is_lt, is_ll, is_ni, is_nb, is_ns, is_nt, is_nl, v_eqS, v_neS, v_inS, v_notInS, truD_n, truD_t, cap_o, cap_s, cap_n, cap_b, noL_s, its_t, own_t, own_s, its_s, sv_n, sv_i, sv_s, sv_b, isStr_s, isNon_n, isNon_i, isNon_s, isNon_t, isNon_l, v_tup, forL_0, kL_nx, kL_ct, kL_bk, kL_rt, kL_ex, tg_n, tg_t, tg_0, tg_s, wp_0, wp_s, bk_0, bk_s, rd_0, rd_s, sb_a, sb_l, si_a, si_l, hd_0, out_t, out_f, argD, ite_self, List.map_cons, List.map_nil, List.append_nil, List.cons_append, List.nil_append, Bool.and_true, Bool.true_and, Bool.not_true, Bool.not_false, Bool.and_false, Bool.false_and, true_and, and_true, decide_eq_true_eq, Bool.false_eq_true, if_false, if_true, ite_true, ite_false, reduceIte, Bool.not_eq_true', Bool.true_eq_false, eq_self]
  exact ⟨_, rfl, w, p', v', q1, q2, rfl, rfl⟩
end K12
namespace K12
open PySem PD SX
theorem goodL_two : ∀ {xs : List Row} {l : Int}, goodL l xs = true → ∃ s : Sp, xs = s.map two' ∧ ∀ q ∈ s, 0 ≤ q.1 ∧ q.1 ≤ 20000 ∧ 0 ≤ q.2 ∧ q.2 ≤ 20000
  | [], l, _ => ⟨[], rfl, by simp⟩
  | .two a b :: r, l, h => by
    simp only [goodL, Bool.and_eq_true, decide_eq_true_eq] at h
    obtain ⟨h1, h2, h3, h4, h5⟩ := h
    obtain ⟨s, e, hs⟩ := goodL_two h5
    refine ⟨(a, b) :: s, by rw [e]; rfl, fun q hq => ?_⟩
    rcases List.mem_cons.mp hq with rfl | hq
    · simp only; omega
    · exact hs q hq
  | .one _ :: _, _, h => by simp [goodL] at h
  | .li _ _ :: _, _, h => by simp [goodL] at h
  | .tru _ :: _, _, h => by simp [goodL] at h
theorem good_two {xs : List Row} (h : goodR xs = true) : ∃ s : Sp, xs = s.map two' ∧ Ok s := by
  unfold goodR at h
  rw [Bool.and_eq_true, decide_eq_true_eq] at h
  obtain ⟨s, e, hs⟩ := goodL_two h.1
  refine ⟨s, e, ?_, hs⟩
  have := h.2
  rw [e, List.length_map] at this
  exact this
theorem due_ne (w : List Nat) : gNe [dueD .o w, dueD .f w] = some (.bl false) := by
  have hp : ∀ (m n : Fl) (xs : Sp), gNe [spD m xs, spD n xs] = some (.bl false) := fun m n xs => by
    have := v_neL (f := pr) (m := m) (n := n) (xs := xs) (ys := xs) eqD_p (fun _ => by simp [dp, dpL, pr])
    rw [this]; simp
  have hz : ∀ z : Str, gNe [.str z, .str z] = some (.bl false) := fun z => by rw [v_neS]; simp
  unfold dueD
  split
  · exact hp .o .o []
  · split
    · exact hz _
    · split
      · exact hp _ _ _
      · exact hz _
theorem isF_due (w : List Nat) : True := trivial
@[reducible] def L (ns : List Int) (s1 s2 s3 s4 s5 s6 s7 s8 : Option D) : DS := [some (scr ns), s1, s2, s3, s4, s5, s6, s7, s8]
theorem eq_pp (m n : Fl) (xs : Sp) : gNe [spD m xs, spD n xs] = some (.bl false) := by
  have := v_neL (f := pr) (m := m) (n := n) (xs := xs) (ys := xs) eqD_p (fun _ => by simp [dp, dpL, pr])
  rw [this]; simp
theorem ne_non : gNe [.non, .non] = some (.bl false) := rfl
theorem ne_self (z : Str) : gNe [.str z, .str z] = some (.bl false) := by rw [v_neS]; simp
theorem ne_nil (m : Fl) (xs : Sp) : gNe [spD m xs, .lst .o []] = some (.bl (!decide (xs = []))) := v_neNil (f := pr) eqD_p (fun _ => by simp [dp, dpL, pr])
theorem lp_law {ns : List Int} {K : ES → Prop} : ∀ (ks : List Int) (p : Nat) (v : Int) (a2 a3 a4 a5 a6 : Option D), 0 ≤ v →
    (∀ (p' : Nat) (v' : Int) (a2 a3 a4 a5 a6 : Option D), K (.nx, L ns (some (stt ns p' v')) a2 a3 a4 a5 a6 none none)) →
    has (evForL (tgName 2) bd_law_2 (ks.map .int) (L ns (some (stt ns p v)) a2 a3 a4 a5 a6 none none)) K
  | [], p, v, a2, a3, a4, a5, a6, hv, h => by
    simp only [e_cst, e_nil, e_yes, e_var, e_fv, e_mv, e_cons, e_dfr, e_op, e_tup, e_lst, e_tr, e_notT, e_andT, e_orT, e_andV, e_orV, e_notV, e_opq, e_if, e_call, e_callM, e_chain, e_src, e_rng, e_lc, g_nx, g_retN, g_brk, g_cnt, g_seq, g_drop, g_ret, g_asg, g_if, g_for, g_app, g_set, kk_ok, kS_ok, kQ_nx, kQ_rt, kQ_bk, kQ_ct, kk_ex, kS_ex, kQ_ex, g_raise, e_isi, g_asgT, e_grd, g_try, g_tryAs, g_appT, e_chainN, lkQ_1, lkQ_2, noX_rt, noX_nx, noX_bk, noX_ct, hdQ_0, hdQ_s, tryQ_ex, tryQ_rt, tryQ_nx, tryQ_bk, tryQ_ct, tasQ_ex, tasQ_rt, tasQ_nx, tasQ_bk, tasQ_ct, has_some, sl_0, sl_s, st_0, st_s, v_add, v_sub, v_neg, v_lt, v_le, v_gt, v_ge, v_eqi, v_nei, v_is, v_isNot, v_len, v_lenT, v_abs, v_int, v_item, v_itemT, v_list, v_max, v_min, v_repr, blD_bl, truD_bl, truD_lst, isF_int, isF_bl, isF_non, isF_tup, isF_str, isF_lf, isF_lk, isF_lo, isF_ll, at_0, at_1, at_2, ix_0, ix_1, ix_2, cap_i, cap_t, noL_i, noL_n, noL_b, noL_t, ck_0, ck_s, lk_0, lk_1, lk_2, lk_3, lk_4, ln_0, ln_1, ln_2, ln_3, ln_4, own_o, own_l, own_f, its_o, its_l, its_f, lend_o, lend_i, lend_b, lend_n, lend_s, lend_t, cap_k, cap_f, lend_l, lend_f, sh_o, sh_l, sh_f, sh_k, Bool.or_true, Bool.true_or, Bool.or_false, Bool.false_or, intD, isLst, lstO, List.set_cons_zero, List.set_cons_succ, bind_S, ty_i, ty_b, ty_s, ty_t, ty_l, ty_n, is_ii, is_ib, is_is, is_it, is_il, is_bi, is_bb, is_bs, is_bt, is_bl, is_si, is_sb, is_ss, is_st, is_sl, is_ti, is_tb, is_ts, is_tt, is_tl, is_li, is_lb, is_ls, is_lt, is_ll, is_ni, is_nb, is_ns, is_nt, is_nl, v_eqS, v_neS, v_inS, v_notInS, truD_n, truD_t, cap_o, cap_s, cap_n, cap_b, noL_s, its_t, own_t, own_s, its_s, sv_n, sv_i, sv_s, sv_b, isStr_s, isNon_n, isNon_i, isNon_s, isNon_t, isNon_l, v_tup, noL_lo, noL_lf, frz_lo, frz_lf, forL_0, kL_nx, kL_ct, kL_bk, kL_rt, kL_ex, tg_n, tg_t, tg_0, tg_s, wp_0, wp_s, bk_0, bk_s, rd_0, rd_s, sb_a, sb_l, si_a, si_l, hd_0, out_t, out_f, argD, ite_self, List.map_cons, List.map_nil, List.append_nil, List.cons_append, List.nil_append, Bool.and_true, Bool.true_and, Bool.not_true, Bool.not_false, Bool.and_false, Bool.false_and, true_and, and_true, decide_eq_true_eq, Bool.false_eq_true, if_false, if_true, ite_true, ite_false, reduceIte, Bool.not_eq_true', Bool.true_eq_false, eq_self]
    exact h p v a2 a3 a4 a5 a6
  | k :: r, p, v, a2, a3, a4, a5, a6, hv, h => by
    obtain ⟨_, _, ⟨xs, p1, v1, h1, l1, rfl, rfl⟩, e1⟩ := ok_rows ns p v hv
    rw [List.map_cons, forL_s, tg_n, has_some]
    simp only [L, st_s, st_0]
    unfold bd_law_2
    refine step (L ns (some (stt ns p1 v1)) (some (.int k)) (some (rwD .o xs)) a4 a5 a6 none none) (fun k1 Q hk => ?_) ?_
    · simp only [L, e_cst, e_nil, e_yes, e_var, e_fv, e_mv, e_cons, e_dfr, e_op, e_tup, e_lst, e_tr, e_notT, e_andT, e_orT, e_andV, e_orV, e_notV, e_opq, e_if, e_call, e_callM, e_chain, e_src, e_rng, e_lc, g_nx, g_retN, g_brk, g_cnt, g_seq, g_drop, g_ret, g_asg, g_if, g_for, g_app, g_set, kk_ok, kS_ok, kQ_nx, kQ_rt, kQ_bk, kQ_ct, kk_ex, kS_ex, kQ_ex, g_raise, e_isi, g_asgT, e_grd, g_try, g_tryAs, g_appT, e_chainN, lkQ_1, lkQ_2, noX_rt, noX_nx, noX_bk, noX_ct, hdQ_0, hdQ_s, tryQ_ex, tryQ_rt, tryQ_nx, tryQ_bk, tryQ_ct, tasQ_ex, tasQ_rt, tasQ_nx, tasQ_bk, tasQ_ct, has_some, sl_0, sl_s, st_0, st_s, v_add, v_sub, v_neg, v_lt, v_le, v_gt, v_ge, v_eqi, v_nei, v_is, v_isNot, v_len, v_lenT, v_abs, v_int, v_item, v_itemT, v_list, v_max, v_min, v_repr, blD_bl, truD_bl, truD_lst, isF_int, isF_bl, isF_non, isF_tup, isF_str, isF_lf, isF_lk, isF_lo, isF_ll, at_0, at_1, at_2, ix_0, ix_1, ix_2, cap_i, cap_t, noL_i, noL_n, noL_b, noL_t, ck_0, ck_s, lk_0, lk_1, lk_2, lk_3, lk_4, ln_0, ln_1, ln_2, ln_3, ln_4, own_o, own_l, own_f, its_o, its_l, its_f, lend_o, lend_i, lend_b, lend_n, lend_s, lend_t, cap_k, cap_f, lend_l, lend_f, sh_o, sh_l, sh_f, sh_k, Bool.or_true, Bool.true_or, Bool.or_false, Bool.false_or, intD, isLst, lstO, List.set_cons_zero, List.set_cons_succ, bind_S, ty_i, ty_b, ty_s, ty_t, ty_l, ty_n, is_ii, is_ib, is_is, is_it, is_il, is_bi, is_bb, is_bs, is_bt, is_bl, is_si, is_sb, is_ss, is_st, is_sl, is_ti, is_tb, is_ts, is_tt, is_tl, is_li, is_lb, is_ls, is_lt, is_ll, is_ni, is_nb, is_ns, is_nt, is_nl, v_eqS, v_neS, v_inS, v_notInS, truD_n, truD_t, cap_o, cap_s, cap_n, cap_b, noL_s, its_t, own_t, own_s, its_s, sv_n, sv_i, sv_s, sv_b, isStr_s, isNon_n, isNon_i, isNon_s, isNon_t, isNon_l, v_tup, noL_lo, noL_lf, frz_lo, frz_lf, forL_0, kL_nx, kL_ct, kL_bk, kL_rt, kL_ex, tg_n, tg_t, tg_0, tg_s, wp_0, wp_s, bk_0, bk_s, rd_0, rd_s, sb_a, sb_l, si_a, si_l, hd_0, out_t, out_f, argD, ite_self, List.map_cons, List.map_nil, List.append_nil, List.cons_append, List.nil_append, Bool.and_true, Bool.true_and, Bool.not_true, Bool.not_false, Bool.and_false, Bool.false_and, true_and, and_true, decide_eq_true_eq, Bool.false_eq_true, if_false, if_true, ite_true, ite_false, reduceIte, Bool.not_eq_true', Bool.true_eq_false, eq_self, e1]
      exact hk
    refine step (L ns (some (stt ns p1 v1)) (some (.int k)) (some (rwD .o xs)) (some (rwD .o xs)) a5 a6 none none) (fun k1 Q hk => ?_) ?_
    · simp only [L, e_cst, e_nil, e_yes, e_var, e_fv, e_mv, e_cons, e_dfr, e_op, e_tup, e_lst, e_tr, e_notT, e_andT, e_orT, e_andV, e_orV, e_notV, e_opq, e_if, e_call, e_callM, e_chain, e_src, e_rng, e_lc, g_nx, g_retN, g_brk, g_cnt, g_seq, g_drop, g_ret, g_asg, g_if, g_for, g_app, g_set, kk_ok, kS_ok, kQ_nx, kQ_rt, kQ_bk, kQ_ct, kk_ex, kS_ex, kQ_ex, g_raise, e_isi, g_asgT, e_grd, g_try, g_tryAs, g_appT, e_chainN, lkQ_1, lkQ_2, noX_rt, noX_nx, noX_bk, noX_ct, hdQ_0, hdQ_s, tryQ_ex, tryQ_rt, tryQ_nx, tryQ_bk, tryQ_ct, tasQ_ex, tasQ_rt, tasQ_nx, tasQ_bk, tasQ_ct, has_some, sl_0, sl_s, st_0, st_s, v_add, v_sub, v_neg, v_lt, v_le, v_gt, v_ge, v_eqi, v_nei, v_is, v_isNot, v_len, v_lenT, v_abs, v_int, v_item, v_itemT, v_list, v_max, v_min, v_repr, blD_bl, truD_bl, truD_lst, isF_int, isF_bl, isF_non, isF_tup, isF_str, isF_lf, isF_lk, isF_lo, isF_ll, at_0, at_1, at_2, ix_0, ix_1, ix_2, cap_i, cap_t, noL_i, noL_n, noL_b, noL_t, ck_0, ck_s, lk_0, lk_1, lk_2, lk_3, lk_4, ln_0, ln_1, ln_2, ln_3, ln_4, own_o, own_l, own_f, its_o, its_l, its_f, lend_o, lend_i, lend_b, lend_n, lend_s, lend_t, cap_k, cap_f, lend_l, lend_f, sh_o, sh_l, sh_f, sh_k, Bool.or_true, Bool.true_or, Bool.or_false, Bool.false_or, intD, isLst, lstO, List.set_cons_zero, List.set_cons_succ, bind_S, ty_i, ty_b, ty_s, ty_t, ty_l, ty_n, is_ii, is_ib, is_is, is_it, is_il, is_bi, is_bb, is_bs, is_bt, is_bl, is_si, is_sb, is_ss, is_st, is_sl, is_ti, is_tb, is_ts, is_tt, is_tl, is_li, is_lb, is_ls, is_lt, is_ll, is_ni, is_nb, is_ns, is_nt, is_nl, v_eqS, v_neS, v_inS, v_notInS, truD_n, truD_t, cap_o, cap_s, cap_n, cap_b, noL_s, its_t, own_t, own_s, its_s, sv_n, sv_i, sv_s, sv_b, isStr_s, isNon_n, isNon_i, isNon_s, isNon_t, isNon_l, v_tup, noL_lo, noL_lf, frz_lo, frz_lf, forL_0, kL_nx, kL_ct, kL_bk, kL_rt, kL_ex, tg_n, tg_t, tg_0, tg_s, wp_0, wp_s, bk_0, bk_s, rd_0, rd_s, sb_a, sb_l, si_a, si_l, hd_0, out_t, out_f, argD, ite_self, List.map_cons, List.map_nil, List.append_nil, List.cons_append, List.nil_append, Bool.and_true, Bool.true_and, Bool.not_true, Bool.not_false, Bool.and_false, Bool.false_and, true_and, and_true, decide_eq_true_eq, Bool.false_eq_true, if_false, if_true, ite_true, ite_false, reduceIte, Bool.not_eq_true', Bool.true_eq_false, eq_self]
      exact hk
    have tail : ∀ (p : Nat) (v : Int) (m : Fl) (a3 a4 a6 : Option D), 0 ≤ v → Go (evSeq (evAsg 5 (evCallM F__law_text 1 [] [] (evNil)))
        (evSeq (evIfS (evTr blD (evOp gNe (evCons false true (evCall F__law_read [true] [] (evDefer 5 (evNil))) (evCons false true (evCall F__law_due [true] [] (evDefer 5 (evNil))) evNil)))) (evSeq (evRet (evCst (.bl false)))
        (evNx)) (evNx))
        (evNx))) (L ns (some (stt ns p v)) (some (.int k)) a3 a4 a5 a6 none none) (kL (fun δ2 => has (evForL (tgName 2) bd_law_2 (r.map .int) δ2) K) K) := by
      intro p v m a3 a4 a6 hv
      obtain ⟨_, _, ⟨w, p2, v2, h2, l2, rfl, rfl⟩, e2⟩ := ok_text ns p v hv
      refine step (L ns (some (stt ns p2 v2)) (some (.int k)) a3 a4 (some (.str (S w))) a6 none none) (fun k1 Q hk => ?_) ?_
      · simp only [L, e_cst, e_nil, e_yes, e_var, e_fv, e_mv, e_cons, e_dfr, e_op, e_tup, e_lst, e_tr, e_notT, e_andT, e_orT, e_andV, e_orV, e_notV, e_opq, e_if, e_call, e_callM, e_chain, e_src, e_rng, e_lc, g_nx, g_retN, g_brk, g_cnt, g_seq, g_drop, g_ret, g_asg, g_if, g_for, g_app, g_set, kk_ok, kS_ok, kQ_nx, kQ_rt, kQ_bk, kQ_ct, kk_ex, kS_ex, kQ_ex, g_raise, e_isi, g_asgT, e_grd, g_try, g_tryAs, g_appT, e_chainN, lkQ_1, lkQ_2, noX_rt, noX_nx, noX_bk, noX_ct, hdQ_0, hdQ_s, tryQ_ex, tryQ_rt, tryQ_nx, tryQ_bk, tryQ_ct, tasQ_ex, tasQ_rt, tasQ_nx, tasQ_bk, tasQ_ct, has_some, sl_0, sl_s, st_0, st_s, v_add, v_sub, v_neg, v_lt, v_le, v_gt, v_ge, v_eqi, v_nei, v_is, v_isNot, v_len, v_lenT, v_abs, v_int, v_item, v_itemT, v_list, v_max, v_min, v_repr, blD_bl, truD_bl, truD_lst, isF_int, isF_bl, isF_non, isF_tup, isF_str, isF_lf, isF_lk, isF_lo, isF_ll, at_0, at_1, at_2, ix_0, ix_1, ix_2, cap_i, cap_t, noL_i, noL_n, noL_b, noL_t, ck_0, ck_s, lk_0, lk_1, lk_2, lk_3, lk_4, ln_0, ln_1, ln_2, ln_3, ln_4, own_o, own_l, own_f, its_o, its_l, its_f, lend_o, lend_i, lend_b, lend_n, lend_s, lend_t, cap_k, cap_f, lend_l, lend_f, sh_o, sh_l, sh_f, sh_k, Bool.or_true, Bool.true_or, Bool.or_false, Bool.false_or, intD, isLst, lstO, List.set_cons_zero, List.set_cons_succ, bind_S, ty_i, ty_b, ty_s, ty_t, ty_l, ty_n, is_ii, is_ib, is_is, is_it, is_il, is_bi, is_bb, is_bs, is_bt, is_bl, is_si, is_sb, is_ss, is_st, is_sl, is_ti, is_tb, is_ts, is_tt, is_tl, is_li, is_lb, is_ls, is_lt, is_ll, is_ni, is_nb, is_ns, is_nt, is_nl, v_eqS, v_neS, v_inS, v_notInS, truD_n, truD_t, cap_o, cap_s, cap_n, cap_b, noL_s, its_t, own_t, own_s, its_s, sv_n, sv_i, sv_s, sv_b, isStr_s, isNon_n, isNon_i, isNon_s, isNon_t, isNon_l, v_tup, noL_lo, noL_lf, frz_lo, frz_lf, forL_0, kL_nx, kL_ct, kL_bk, kL_rt, kL_ex, tg_n, tg_t, tg_0, tg_s, wp_0, wp_s, bk_0, bk_s, rd_0, rd_s, sb_a, sb_l, si_a, si_l, hd_0, out_t, out_f, argD, ite_self, List.map_cons, List.map_nil, List.append_nil, List.cons_append, List.nil_append, Bool.and_true, Bool.true_and, Bool.not_true, Bool.not_false, Bool.and_false, Bool.false_and, true_and, and_true, decide_eq_true_eq, Bool.false_eq_true, if_false, if_true, ite_true, ite_false, reduceIte, Bool.not_eq_true', Bool.true_eq_false, eq_self, e2]
        exact hk
      simp only [L, e_cst, e_nil, e_yes, e_var, e_fv, e_mv, e_cons, e_dfr, e_op, e_tup, e_lst, e_tr, e_notT, e_andT, e_orT, e_andV, e_orV, e_notV, e_opq, e_if, e_call, e_callM, e_chain, e_src, e_rng, e_lc, g_nx, g_retN, g_brk, g_cnt, g_seq, g_drop, g_ret, g_asg, g_if, g_for, g_app, g_set, kk_ok, kS_ok, kQ_nx, kQ_rt, kQ_bk, kQ_ct, kk_ex, kS_ex, kQ_ex, g_raise, e_isi, g_asgT, e_grd, g_try, g_tryAs, g_appT, e_chainN, lkQ_1, lkQ_2, noX_rt, noX_nx, noX_bk, noX_ct, hdQ_0, hdQ_s, tryQ_ex, tryQ_rt, tryQ_nx, tryQ_bk, tryQ_ct, tasQ_ex, tasQ_rt, tasQ_nx, tasQ_bk, tasQ_ct, has_some, sl_0, sl_s, st_0, st_s, v_add, v_sub, v_neg, v_lt, v_le, v_gt, v_ge, v_eqi, v_nei, v_is, v_isNot, v_len, v_lenT, v_abs, v_int, v_item, v_itemT, v_list, v_max, v_min, v_repr, blD_bl, truD_bl, truD_lst, isF_int, isF_bl, isF_non, isF_tup, isF_str, isF_lf, isF_lk, isF_lo, isF_ll, at_0, at_1, at_2, ix_0, ix_1, ix_2, cap_i, cap_t, noL_i, noL_n, noL_b, noL_t, ck_0, ck_s, lk_0, lk_1, lk_2, lk_3, lk_4, ln_0, ln_1, ln_2, ln_3, ln_4, own_o, own_l, own_f, its_o, its_l, its_f, lend_o, lend_i, lend_b, lend_n, lend_s, lend_t, cap_k, cap_f, lend_l, lend_f, sh_o, sh_l, sh_f, sh_k, Bool.or_true, Bool.true_or, Bool.or_false, Bool.false_or, intD, isLst, lstO, List.set_cons_zero, List.set_cons_succ, bind_S, ty_i, ty_b, ty_s, ty_t, ty_l, ty_n, is_ii, is_ib, is_is, is_it, is_il, is_bi, is_bb, is_bs, is_bt, is_bl, is_si, is_sb, is_ss, is_st, is_sl, is_ti, is_tb, is_ts, is_tt, is_tl, is_li, is_lb, is_ls, is_lt, is_ll, is_ni, is_nb, is_ns, is_nt, is_nl, v_eqS, v_neS, v_inS, v_notInS, truD_n, truD_t, cap_o, cap_s, cap_n, cap_b, noL_s, its_t, own_t, own_s, its_s, sv_n, sv_i, sv_s, sv_b, isStr_s, isNon_n, isNon_i, isNon_s, isNon_t, isNon_l, v_tup, noL_lo, noL_lf, frz_lo, frz_lf, forL_0, kL_nx, kL_ct, kL_bk, kL_rt, kL_ex, tg_n, tg_t, tg_0, tg_s, wp_0, wp_s, bk_0, bk_s, rd_0, rd_s, sb_a, sb_l, si_a, si_l, hd_0, out_t, out_f, argD, ite_self, List.map_cons, List.map_nil, List.append_nil, List.cons_append, List.nil_append, Bool.and_true, Bool.true_and, Bool.not_true, Bool.not_false, Bool.and_false, Bool.false_and, true_and, and_true, decide_eq_true_eq, Bool.false_eq_true, if_false, if_true, ite_true, ite_false, reduceIte, Bool.not_eq_true', Bool.true_eq_false, eq_self, ok_lread w (by omega), ok_due w (by omega), due_ne]
      exact lp_law r p2 v2 _ _ _ _ _ h2 h
    by_cases hg : goodR xs = true
    · obtain ⟨s, rfl, ho⟩ := good_two hg
      have er : ∀ m, rwD m (s.map two') = spD m s := fun m => by unfold rwD; rw [enc_two]
      have el := ok_lchk (d := .lst .l (s.map pr)) (xs := s.map two') (by rw [enc_two]; exact Sq.l) (by omega)
      have et := ok_lchk (d := .tup (s.map pr)) (xs := s.map two') (by rw [enc_two]; exact Sq.t) (by omega)
      have gl := ok_good (d := .lst .l (s.map pr)) (xs := s.map two') (by rw [enc_two]; exact Sq.l)
      have gf := ok_good (d := .lst .f (s.map pr)) (xs := s.map two') (by rw [enc_two]; exact Sq.f)
      simp only [hg, if_true, er] at el et gl gf
      rw [er]
      refine step (L ns (some (stt ns p1 v1)) (some (.int k)) (some (spD .f s)) (some (spD .o s)) a5 a6 none none) (fun k1 Q hk => ?_) ?_
      · have t1 : gTuple [.lst .f (s.map pr)] = some (.tup (s.map pr)) := rfl
        simp only [L, e_cst, e_nil, e_yes, e_var, e_fv, e_mv, e_cons, e_dfr, e_op, e_tup, e_lst, e_tr, e_notT, e_andT, e_orT, e_andV, e_orV, e_notV, e_opq, e_if, e_call, e_callM, e_chain, e_src, e_rng, e_lc, g_nx, g_retN, g_brk, g_cnt, g_seq, g_drop, g_ret, g_asg, g_if, g_for, g_app, g_set, kk_ok, kS_ok, kQ_nx, kQ_rt, kQ_bk, kQ_ct, kk_ex, kS_ex, kQ_ex, g_raise, e_isi, g_asgT, e_grd, g_try, g_tryAs, g_appT, e_chainN, lkQ_1, lkQ_2, noX_rt, noX_nx, noX_bk, noX_ct, hdQ_0, hdQ_s, tryQ_ex, tryQ_rt, tryQ_nx, tryQ_bk, tryQ_ct, tasQ_ex, tasQ_rt, tasQ_nx, tasQ_bk, tasQ_ct, has_some, sl_0, sl_s, st_0, st_s, v_add, v_sub, v_neg, v_lt, v_le, v_gt, v_ge, v_eqi, v_nei, v_is, v_isNot, v_len, v_lenT, v_abs, v_int, v_item, v_itemT, v_list, v_max, v_min, v_repr, blD_bl, truD_bl, truD_lst, isF_int, isF_bl, isF_non, isF_tup, isF_str, isF_lf, isF_lk, isF_lo, isF_ll, at_0, at_1, at_2, ix_0, ix_1, ix_2, cap_i, cap_t, noL_i, noL_n, noL_b, noL_t, ck_0, ck_s, lk_0, lk_1, lk_2, lk_3, lk_4, ln_0, ln_1, ln_2, ln_3, ln_4, own_o, own_l, own_f, its_o, its_l, its_f, lend_o, lend_i, lend_b, lend_n, lend_s, lend_t, cap_k, cap_f, lend_l, lend_f, sh_o, sh_l, sh_f, sh_k, Bool.or_true, Bool.true_or, Bool.or_false, Bool.false_or, intD, isLst, lstO, List.set_cons_zero, List.set_cons_succ, bind_S, ty_i, ty_b, ty_s, ty_t, ty_l, ty_n, is_ii, is_ib, is_is, is_it, is_il, is_bi, is_bb, is_bs, is_bt, is_bl, is_si, is_sb, is_ss, is_st, is_sl, is_ti, is_tb, is_ts, is_tt, is_tl, is_li, is_lb, is_ls, is_lt, is_ll, is_ni, is_nb, is_ns, is_nt, is_nl, v_eqS, v_neS, v_inS, v_notInS, truD_n, truD_t, cap_o, cap_s, cap_n, cap_b, noL_s, its_t, own_t, own_s, its_s, sv_n, sv_i, sv_s, sv_b, isStr_s, isNon_n, isNon_i, isNon_s, isNon_t, isNon_l, v_tup, noL_lo, noL_lf, frz_lo, frz_lf, forL_0, kL_nx, kL_ct, kL_bk, kL_rt, kL_ex, tg_n, tg_t, tg_0, tg_s, wp_0, wp_s, bk_0, bk_s, rd_0, rd_s, sb_a, sb_l, si_a, si_l, hd_0, out_t, out_f, argD, ite_self, List.map_cons, List.map_nil, List.append_nil, List.cons_append, List.nil_append, Bool.and_true, Bool.true_and, Bool.not_true, Bool.not_false, Bool.and_false, Bool.false_and, true_and, and_true, decide_eq_true_eq, Bool.false_eq_true, if_false, if_true, ite_true, ite_false, reduceIte, Bool.not_eq_true', Bool.true_eq_false, eq_self, el, gl, gf, t1, et, eq_pp]
        exact hk
      refine step (L ns (some (stt ns p1 v1)) (some (.int k)) (some (spD .f s)) (some (spD .o s)) a5 (some (.str (S (txt s)))) none none) (fun k1 Q hk => ?_) ?_
      · have fm := ok_format (m := .f) (s := s) Sq.f ho
        have pa := parse_txt ho hg
        have ch := ok_checked (d := .lst .l (s.map pr)) (xs := s.map two') (by rw [enc_two]; exact Sq.l) (by omega)
        simp only [hg, if_true, er] at ch
        have l60 : (s.map pr).length < 1000000 := by rw [List.length_map]; have := ho.1; omega
        have rest : Go (evSeq (evIfS (evOrT (evTr blD (evOp gNe (evCons false true (evCall F_format_spans [true] [] (evDefer 3 (evNil))) (evCons true true (evVar 6) evNil)))) (evTr blD (evOp gNe (evCons false true (evCall F_parse_spans [true] [] (evDefer 6 (evNil))) (evCons true true (evVar 3) evNil))))) (evSeq (evRet (evCst (.bl false)))
          (evNx)) (evNx))
          (evSeq (evAppT (evCall F_checked_spans [true] [] (evDefer 4 (evNil))) (evCst (.int 5)))
          (evNx))) (L ns (some (stt ns p1 v1)) (some (.int k)) (some (spD .f s)) (some (spD .o s)) a5 (some (.str (S (txt s)))) none none) (kQ k1 Q) := by
          simp only [L, e_cst, e_nil, e_yes, e_var, e_fv, e_mv, e_cons, e_dfr, e_op, e_tup, e_lst, e_tr, e_notT, e_andT, e_orT, e_andV, e_orV, e_notV, e_opq, e_if, e_call, e_callM, e_chain, e_src, e_rng, e_lc, g_nx, g_retN, g_brk, g_cnt, g_seq, g_drop, g_ret, g_asg, g_if, g_for, g_app, g_set, kk_ok, kS_ok, kQ_nx, kQ_rt, kQ_bk, kQ_ct, kk_ex, kS_ex, kQ_ex, g_raise, e_isi, g_asgT, e_grd, g_try, g_tryAs, g_appT, e_chainN, lkQ_1, lkQ_2, noX_rt, noX_nx, noX_bk, noX_ct, hdQ_0, hdQ_s, tryQ_ex, tryQ_rt, tryQ_nx, tryQ_bk, tryQ_ct, tasQ_ex, tasQ_rt, tasQ_nx, tasQ_bk, tasQ_ct, has_some, sl_0, sl_s, st_0, st_s, v_add, v_sub, v_neg, v_lt, v_le, v_gt, v_ge, v_eqi, v_nei, v_is, v_isNot, v_len, v_lenT, v_abs, v_int, v_item, v_itemT, v_list, v_max, v_min, v_repr, blD_bl, truD_bl, truD_lst, isF_int, isF_bl, isF_non, isF_tup, isF_str, isF_lf, isF_lk, isF_lo, isF_ll, at_0, at_1, at_2, ix_0, ix_1, ix_2, cap_i, cap_t, noL_i, noL_n, noL_b, noL_t, ck_0, ck_s, lk_0, lk_1, lk_2, lk_3, lk_4, ln_0, ln_1, ln_2, ln_3, ln_4, own_o, own_l, own_f, its_o, its_l, its_f, lend_o, lend_i, lend_b, lend_n, lend_s, lend_t, cap_k, cap_f, lend_l, lend_f, sh_o, sh_l, sh_f, sh_k, Bool.or_true, Bool.true_or, Bool.or_false, Bool.false_or, intD, isLst, lstO, List.set_cons_zero, List.set_cons_succ, bind_S, ty_i, ty_b, ty_s, ty_t, ty_l, ty_n, is_ii, is_ib, is_is, is_it, is_il, is_bi, is_bb, is_bs, is_bt, is_bl, is_si, is_sb, is_ss, is_st, is_sl, is_ti, is_tb, is_ts, is_tt, is_tl, is_li, is_lb, is_ls, is_lt, is_ll, is_ni, is_nb, is_ns, is_nt, is_nl, v_eqS, v_neS, v_inS, v_notInS, truD_n, truD_t, cap_o, cap_s, cap_n, cap_b, noL_s, its_t, own_t, own_s, its_s, sv_n, sv_i, sv_s, sv_b, isStr_s, isNon_n, isNon_i, isNon_s, isNon_t, isNon_l, v_tup, noL_lo, noL_lf, frz_lo, frz_lf, forL_0, kL_nx, kL_ct, kL_bk, kL_rt, kL_ex, tg_n, tg_t, tg_0, tg_s, wp_0, wp_s, bk_0, bk_s, rd_0, rd_s, sb_a, sb_l, si_a, si_l, hd_0, out_t, out_f, argD, ite_self, List.map_cons, List.map_nil, List.append_nil, List.cons_append, List.nil_append, Bool.and_true, Bool.true_and, Bool.not_true, Bool.not_false, Bool.and_false, Bool.false_and, true_and, and_true, decide_eq_true_eq, Bool.false_eq_true, if_false, if_true, ite_true, ite_false, reduceIte, Bool.not_eq_true', Bool.true_eq_false, eq_self, fm, ne_self, pa, eq_pp, ch, l60]
          exact hk
        generalize hR : (evSeq (evIfS (evOrT (evTr blD (evOp gNe (evCons false true (evCall F_format_spans [true] [] (evDefer 3 (evNil))) (evCons true true (evVar 6) evNil)))) (evTr blD (evOp gNe (evCons false true (evCall F_parse_spans [true] [] (evDefer 6 (evNil))) (evCons true true (evVar 3) evNil))))) (evSeq (evRet (evCst (.bl false)))
          (evNx)) (evNx))
          (evSeq (evAppT (evCall F_checked_spans [true] [] (evDefer 4 (evNil))) (evCst (.int 5)))
          (evNx))) = R at rest ⊢
        by_cases hs : s = []
        · have et : S (txt s) = Str.ofString "-" := by rw [hs]; exact dash.symm
          rw [et] at rest
          subst hs
          have nn : gNe [spD .f [], .lst .o []] = some (.bl false) := rfl
          simp only [List.map_nil] at gf
          simp only [L, e_cst, e_nil, e_yes, e_var, e_fv, e_mv, e_cons, e_dfr, e_op, e_tup, e_lst, e_tr, e_notT, e_andT, e_orT, e_andV, e_orV, e_notV, e_opq, e_if, e_call, e_callM, e_chain, e_src, e_rng, e_lc, g_nx, g_retN, g_brk, g_cnt, g_seq, g_drop, g_ret, g_asg, g_if, g_for, g_app, g_set, kk_ok, kS_ok, kQ_nx, kQ_rt, kQ_bk, kQ_ct, kk_ex, kS_ex, kQ_ex, g_raise, e_isi, g_asgT, e_grd, g_try, g_tryAs, g_appT, e_chainN, lkQ_1, lkQ_2, noX_rt, noX_nx, noX_bk, noX_ct, hdQ_0, hdQ_s, tryQ_ex, tryQ_rt, tryQ_nx, tryQ_bk, tryQ_ct, tasQ_ex, tasQ_rt, tasQ_nx, tasQ_bk, tasQ_ct, has_some, sl_0, sl_s, st_0, st_s, v_add, v_sub, v_neg, v_lt, v_le, v_gt, v_ge, v_eqi, v_nei, v_is, v_isNot, v_len, v_lenT, v_abs, v_int, v_item, v_itemT, v_list, v_max, v_min, v_repr, blD_bl, truD_bl, truD_lst, isF_int, isF_bl, isF_non, isF_tup, isF_str, isF_lf, isF_lk, isF_lo, isF_ll, at_0, at_1, at_2, ix_0, ix_1, ix_2, cap_i, cap_t, noL_i, noL_n, noL_b, noL_t, ck_0, ck_s, lk_0, lk_1, lk_2, lk_3, lk_4, ln_0, ln_1, ln_2, ln_3, ln_4, own_o, own_l, own_f, its_o, its_l, its_f, lend_o, lend_i, lend_b, lend_n, lend_s, lend_t, cap_k, cap_f, lend_l, lend_f, sh_o, sh_l, sh_f, sh_k, Bool.or_true, Bool.true_or, Bool.or_false, Bool.false_or, intD, isLst, lstO, List.set_cons_zero, List.set_cons_succ, bind_S, ty_i, ty_b, ty_s, ty_t, ty_l, ty_n, is_ii, is_ib, is_is, is_it, is_il, is_bi, is_bb, is_bs, is_bt, is_bl, is_si, is_sb, is_ss, is_st, is_sl, is_ti, is_tb, is_ts, is_tt, is_tl, is_li, is_lb, is_ls, is_lt, is_ll, is_ni, is_nb, is_ns, is_nt, is_nl, v_eqS, v_neS, v_inS, v_notInS, truD_n, truD_t, cap_o, cap_s, cap_n, cap_b, noL_s, its_t, own_t, own_s, its_s, sv_n, sv_i, sv_s, sv_b, isStr_s, isNon_n, isNon_i, isNon_s, isNon_t, isNon_l, v_tup, noL_lo, noL_lf, frz_lo, frz_lf, forL_0, kL_nx, kL_ct, kL_bk, kL_rt, kL_ex, tg_n, tg_t, tg_0, tg_s, wp_0, wp_s, bk_0, bk_s, rd_0, rd_s, sb_a, sb_l, si_a, si_l, hd_0, out_t, out_f, argD, ite_self, List.map_cons, List.map_nil, List.append_nil, List.cons_append, List.nil_append, Bool.and_true, Bool.true_and, Bool.not_true, Bool.not_false, Bool.and_false, Bool.false_and, true_and, and_true, decide_eq_true_eq, Bool.false_eq_true, if_false, if_true, ite_true, ite_false, reduceIte, Bool.not_eq_true', Bool.true_eq_false, eq_self, gf, nn]
          exact rest
        · simp only [L, e_cst, e_nil, e_yes, e_var, e_fv, e_mv, e_cons, e_dfr, e_op, e_tup, e_lst, e_tr, e_notT, e_andT, e_orT, e_andV, e_orV, e_notV, e_opq, e_if, e_call, e_callM, e_chain, e_src, e_rng, e_lc, g_nx, g_retN, g_brk, g_cnt, g_seq, g_drop, g_ret, g_asg, g_if, g_for, g_app, g_set, kk_ok, kS_ok, kQ_nx, kQ_rt, kQ_bk, kQ_ct, kk_ex, kS_ex, kQ_ex, g_raise, e_isi, g_asgT, e_grd, g_try, g_tryAs, g_appT, e_chainN, lkQ_1, lkQ_2, noX_rt, noX_nx, noX_bk, noX_ct, hdQ_0, hdQ_s, tryQ_ex, tryQ_rt, tryQ_nx, tryQ_bk, tryQ_ct, tasQ_ex, tasQ_rt, tasQ_nx, tasQ_bk, tasQ_ct, has_some, sl_0, sl_s, st_0, st_s, v_add, v_sub, v_neg, v_lt, v_le, v_gt, v_ge, v_eqi, v_nei, v_is, v_isNot, v_len, v_lenT, v_abs, v_int, v_item, v_itemT, v_list, v_max, v_min, v_repr, blD_bl, truD_bl, truD_lst, isF_int, isF_bl, isF_non, isF_tup, isF_str, isF_lf, isF_lk, isF_lo, isF_ll, at_0, at_1, at_2, ix_0, ix_1, ix_2, cap_i, cap_t, noL_i, noL_n, noL_b, noL_t, ck_0, ck_s, lk_0, lk_1, lk_2, lk_3, lk_4, ln_0, ln_1, ln_2, ln_3, ln_4, own_o, own_l, own_f, its_o, its_l, its_f, lend_o, lend_i, lend_b, lend_n, lend_s, lend_t, cap_k, cap_f, lend_l, lend_f, sh_o, sh_l, sh_f, sh_k, Bool.or_true, Bool.true_or, Bool.or_false, Bool.false_or, intD, isLst, lstO, List.set_cons_zero, List.set_cons_succ, bind_S, ty_i, ty_b, ty_s, ty_t, ty_l, ty_n, is_ii, is_ib, is_is, is_it, is_il, is_bi, is_bb, is_bs, is_bt, is_bl, is_si, is_sb, is_ss, is_st, is_sl, is_ti, is_tb, is_ts, is_tt, is_tl, is_li, is_lb, is_ls, is_lt, is_ll, is_ni, is_nb, is_ns, is_nt, is_nl, v_eqS, v_neS, v_inS, v_notInS, truD_n, truD_t, cap_o, cap_s, cap_n, cap_b, noL_s, its_t, own_t, own_s, its_s, sv_n, sv_i, sv_s, sv_b, isStr_s, isNon_n, isNon_i, isNon_s, isNon_t, isNon_l, v_tup, noL_lo, noL_lf, frz_lo, frz_lf, forL_0, kL_nx, kL_ct, kL_bk, kL_rt, kL_ex, tg_n, tg_t, tg_0, tg_s, wp_0, wp_s, bk_0, bk_s, rd_0, rd_s, sb_a, sb_l, si_a, si_l, hd_0, out_t, out_f, argD, ite_self, List.map_cons, List.map_nil, List.append_nil, List.cons_append, List.nil_append, Bool.and_true, Bool.true_and, Bool.not_true, Bool.not_false, Bool.and_false, Bool.false_and, true_and, and_true, decide_eq_true_eq, Bool.false_eq_true, if_false, if_true, ite_true, ite_false, reduceIte, Bool.not_eq_true', Bool.true_eq_false, eq_self, gf, ne_nil, hs, decide_false, comma]
          refine has_cmpA item stD cap_st s (by have := ho.1; omega) (fun q hq => ?_) ?_
          · obtain ⟨h1, h2, h3, h4⟩ := ho.2 q hq
            have l1 := numL_5 h1 h2
            have l2 := numL_5 h3 h4
            simp only [pr, ct_law_0, ce_law_1, e_cst, e_nil, e_yes, e_var, e_fv, e_mv, e_cons, e_dfr, e_op, e_tup, e_lst, e_tr, e_notT, e_andT, e_orT, e_andV, e_orV, e_notV, e_opq, e_if, e_call, e_callM, e_chain, e_src, e_rng, e_lc, g_nx, g_retN, g_brk, g_cnt, g_seq, g_drop, g_ret, g_asg, g_if, g_for, g_app, g_set, kk_ok, kS_ok, kQ_nx, kQ_rt, kQ_bk, kQ_ct, kk_ex, kS_ex, kQ_ex, g_raise, e_isi, g_asgT, e_grd, g_try, g_tryAs, g_appT, e_chainN, lkQ_1, lkQ_2, noX_rt, noX_nx, noX_bk, noX_ct, hdQ_0, hdQ_s, tryQ_ex, tryQ_rt, tryQ_nx, tryQ_bk, tryQ_ct, tasQ_ex, tasQ_rt, tasQ_nx, tasQ_bk, tasQ_ct, has_some, sl_0, sl_s, st_0, st_s, v_add, v_sub, v_neg, v_lt, v_le, v_gt, v_ge, v_eqi, v_nei, v_is, v_isNot, v_len, v_lenT, v_abs, v_int, v_item, v_itemT, v_list, v_max, v_min, v_repr, blD_bl, truD_bl, truD_lst, isF_int, isF_bl, isF_non, isF_tup, isF_str, isF_lf, isF_lk, isF_lo, isF_ll, at_0, at_1, at_2, ix_0, ix_1, ix_2, cap_i, cap_t, noL_i, noL_n, noL_b, noL_t, ck_0, ck_s, lk_0, lk_1, lk_2, lk_3, lk_4, ln_0, ln_1, ln_2, ln_3, ln_4, own_o, own_l, own_f, its_o, its_l, its_f, lend_o, lend_i, lend_b, lend_n, lend_s, lend_t, cap_k, cap_f, lend_l, lend_f, sh_o, sh_l, sh_f, sh_k, Bool.or_true, Bool.true_or, Bool.or_false, Bool.false_or, intD, isLst, lstO, List.set_cons_zero, List.set_cons_succ, bind_S, ty_i, ty_b, ty_s, ty_t, ty_l, ty_n, is_ii, is_ib, is_is, is_it, is_il, is_bi, is_bb, is_bs, is_bt, is_bl, is_si, is_sb, is_ss, is_st, is_sl, is_ti, is_tb, is_ts, is_tt, is_tl, is_li, is_lb, is_ls, is_lt, is_ll, is_ni, is_nb, is_ns, is_nt, is_nl, v_eqS, v_neS, v_inS, v_notInS, truD_n, truD_t, cap_o, cap_s, cap_n, cap_b, noL_s, its_t, own_t, own_s, its_s, sv_n, sv_i, sv_s, sv_b, isStr_s, isNon_n, isNon_i, isNon_s, isNon_t, isNon_l, v_tup, noL_lo, noL_lf, frz_lo, frz_lf, forL_0, kL_nx, kL_ct, kL_bk, kL_rt, kL_ex, tg_n, tg_t, tg_0, tg_s, wp_0, wp_s, bk_0, bk_s, rd_0, rd_s, sb_a, sb_l, si_a, si_l, hd_0, out_t, out_f, argD, ite_self, List.map_cons, List.map_nil, List.append_nil, List.cons_append, List.nil_append, Bool.and_true, Bool.true_and, Bool.not_true, Bool.not_false, Bool.and_false, Bool.false_and, true_and, and_true, decide_eq_true_eq, Bool.false_eq_true, if_false, if_true, ite_true, ite_false, reduceIte, Bool.not_eq_true', Bool.true_eq_false, eq_self, str_num h1 h2, str_num h3 h4, dash]
            rw [add_S (by simp; omega)]
            simp only [e_cst, e_nil, e_yes, e_var, e_fv, e_mv, e_cons, e_dfr, e_op, e_tup, e_lst, e_tr, e_notT, e_andT, e_orT, e_andV, e_orV, e_notV, e_opq, e_if, e_call, e_callM, e_chain, e_src, e_rng, e_lc, g_nx, g_retN, g_brk, g_cnt, g_seq, g_drop, g_ret, g_asg, g_if, g_for, g_app, g_set, kk_ok, kS_ok, kQ_nx, kQ_rt, kQ_bk, kQ_ct, kk_ex, kS_ex, kQ_ex, g_raise, e_isi, g_asgT, e_grd, g_try, g_tryAs, g_appT, e_chainN, lkQ_1, lkQ_2, noX_rt, noX_nx, noX_bk, noX_ct, hdQ_0, hdQ_s, tryQ_ex, tryQ_rt, tryQ_nx, tryQ_bk, tryQ_ct, tasQ_ex, tasQ_rt, tasQ_nx, tasQ_bk, tasQ_ct, has_some, sl_0, sl_s, st_0, st_s, v_add, v_sub, v_neg, v_lt, v_le, v_gt, v_ge, v_eqi, v_nei, v_is, v_isNot, v_len, v_lenT, v_abs, v_int, v_item, v_itemT, v_list, v_max, v_min, v_repr, blD_bl, truD_bl, truD_lst, isF_int, isF_bl, isF_non, isF_tup, isF_str, isF_lf, isF_lk, isF_lo, isF_ll, at_0, at_1, at_2, ix_0, ix_1, ix_2, cap_i, cap_t, noL_i, noL_n, noL_b, noL_t, ck_0, ck_s, lk_0, lk_1, lk_2, lk_3, lk_4, ln_0, ln_1, ln_2, ln_3, ln_4, own_o, own_l, own_f, its_o, its_l, its_f, lend_o, lend_i, lend_b, lend_n, lend_s, lend_t, cap_k, cap_f, lend_l, lend_f, sh_o, sh_l, sh_f, sh_k, Bool.or_true, Bool.true_or, Bool.or_false, Bool.false_or, intD, isLst, lstO, List.set_cons_zero, List.set_cons_succ, bind_S, ty_i, ty_b, ty_s, ty_t, ty_l, ty_n, is_ii, is_ib, is_is, is_it, is_il, is_bi, is_bb, is_bs, is_bt, is_bl, is_si, is_sb, is_ss, is_st, is_sl, is_ti, is_tb, is_ts, is_tt, is_tl, is_li, is_lb, is_ls, is_lt, is_ll, is_ni, is_nb, is_ns, is_nt, is_nl, v_eqS, v_neS, v_inS, v_notInS, truD_n, truD_t, cap_o, cap_s, cap_n, cap_b, noL_s, its_t, own_t, own_s, its_s, sv_n, sv_i, sv_s, sv_b, isStr_s, isNon_n, isNon_i, isNon_s, isNon_t, isNon_l, v_tup, noL_lo, noL_lf, frz_lo, frz_lf, forL_0, kL_nx, kL_ct, kL_bk, kL_rt, kL_ex, tg_n, tg_t, tg_0, tg_s, wp_0, wp_s, bk_0, bk_s, rd_0, rd_s, sb_a, sb_l, si_a, si_l, hd_0, out_t, out_f, argD, ite_self, List.map_cons, List.map_nil, List.append_nil, List.cons_append, List.nil_append, Bool.and_true, Bool.true_and, Bool.not_true, Bool.not_false, Bool.and_false, Bool.false_and, true_and, and_true, decide_eq_true_eq, Bool.false_eq_true, if_false, if_true, ite_true, ite_false, reduceIte, Bool.not_eq_true', Bool.true_eq_false, eq_self]
            rw [add_S (by simp; omega)]
            simp only [e_cst, e_nil, e_yes, e_var, e_fv, e_mv, e_cons, e_dfr, e_op, e_tup, e_lst, e_tr, e_notT, e_andT, e_orT, e_andV, e_orV, e_notV, e_opq, e_if, e_call, e_callM, e_chain, e_src, e_rng, e_lc, g_nx, g_retN, g_brk, g_cnt, g_seq, g_drop, g_ret, g_asg, g_if, g_for, g_app, g_set, kk_ok, kS_ok, kQ_nx, kQ_rt, kQ_bk, kQ_ct, kk_ex, kS_ex, kQ_ex, g_raise, e_isi, g_asgT, e_grd, g_try, g_tryAs, g_appT, e_chainN, lkQ_1, lkQ_2, noX_rt, noX_nx, noX_bk, noX_ct, hdQ_0, hdQ_s, tryQ_ex, tryQ_rt, tryQ_nx, tryQ_bk, tryQ_ct, tasQ_ex, tasQ_rt, tasQ_nx, tasQ_bk, tasQ_ct, has_some, sl_0, sl_s, st_0, st_s, v_add, v_sub, v_neg, v_lt, v_le, v_gt, v_ge, v_eqi, v_nei, v_is, v_isNot, v_len, v_lenT, v_abs, v_int, v_item, v_itemT, v_list, v_max, v_min, v_repr, blD_bl, truD_bl, truD_lst, isF_int, isF_bl, isF_non, isF_tup, isF_str, isF_lf, isF_lk, isF_lo, isF_ll, at_0, at_1, at_2, ix_0, ix_1, ix_2, cap_i, cap_t, noL_i, noL_n, noL_b, noL_t, ck_0, ck_s, lk_0, lk_1, lk_2, lk_3, lk_4, ln_0, ln_1, ln_2, ln_3, ln_4, own_o, own_l, own_f, its_o, its_l, its_f, lend_o, lend_i, lend_b, lend_n, lend_s, lend_t, cap_k, cap_f, lend_l, lend_f, sh_o, sh_l, sh_f, sh_k, Bool.or_true, Bool.true_or, Bool.or_false, Bool.false_or, intD, isLst, lstO, List.set_cons_zero, List.set_cons_succ, bind_S, ty_i, ty_b, ty_s, ty_t, ty_l, ty_n, is_ii, is_ib, is_is, is_it, is_il, is_bi, is_bb, is_bs, is_bt, is_bl, is_si, is_sb, is_ss, is_st, is_sl, is_ti, is_tb, is_ts, is_tt, is_tl, is_li, is_lb, is_ls, is_lt, is_ll, is_ni, is_nb, is_ns, is_nt, is_nl, v_eqS, v_neS, v_inS, v_notInS, truD_n, truD_t, cap_o, cap_s, cap_n, cap_b, noL_s, its_t, own_t, own_s, its_s, sv_n, sv_i, sv_s, sv_b, isStr_s, isNon_n, isNon_i, isNon_s, isNon_t, isNon_l, v_tup, noL_lo, noL_lf, frz_lo, frz_lf, forL_0, kL_nx, kL_ct, kL_bk, kL_rt, kL_ex, tg_n, tg_t, tg_0, tg_s, wp_0, wp_s, bk_0, bk_s, rd_0, rd_s, sb_a, sb_l, si_a, si_l, hd_0, out_t, out_f, argD, ite_self, List.map_cons, List.map_nil, List.append_nil, List.cons_append, List.nil_append, Bool.and_true, Bool.true_and, Bool.not_true, Bool.not_false, Bool.and_false, Bool.false_and, true_and, and_true, decide_eq_true_eq, Bool.false_eq_true, if_false, if_true, ite_true, ite_false, reduceIte, Bool.not_eq_true', Bool.true_eq_false, eq_self, List.append_assoc]
            rfl
          · simp only [e_cst, e_nil, e_yes, e_var, e_fv, e_mv, e_cons, e_dfr, e_op, e_tup, e_lst, e_tr, e_notT, e_andT, e_orT, e_andV, e_orV, e_notV, e_opq, e_if, e_call, e_callM, e_chain, e_src, e_rng, e_lc, g_nx, g_retN, g_brk, g_cnt, g_seq, g_drop, g_ret, g_asg, g_if, g_for, g_app, g_set, kk_ok, kS_ok, kQ_nx, kQ_rt, kQ_bk, kQ_ct, kk_ex, kS_ex, kQ_ex, g_raise, e_isi, g_asgT, e_grd, g_try, g_tryAs, g_appT, e_chainN, lkQ_1, lkQ_2, noX_rt, noX_nx, noX_bk, noX_ct, hdQ_0, hdQ_s, tryQ_ex, tryQ_rt, tryQ_nx, tryQ_bk, tryQ_ct, tasQ_ex, tasQ_rt, tasQ_nx, tasQ_bk, tasQ_ct, has_some, sl_0, sl_s, st_0, st_s, v_add, v_sub, v_neg, v_lt, v_le, v_gt, v_ge, v_eqi, v_nei, v_is, v_isNot, v_len, v_lenT, v_abs, v_int, v_item, v_itemT, v_list, v_max, v_min, v_repr, blD_bl, truD_bl, truD_lst, isF_int, isF_bl, isF_non, isF_tup, isF_str, isF_lf, isF_lk, isF_lo, isF_ll, at_0, at_1, at_2, ix_0, ix_1, ix_2, cap_i, cap_t, noL_i, noL_n, noL_b, noL_t, ck_0, ck_s, lk_0, lk_1, lk_2, lk_3, lk_4, ln_0, ln_1, ln_2, ln_3, ln_4, own_o, own_l, own_f, its_o, its_l, its_f, lend_o, lend_i, lend_b, lend_n, lend_s, lend_t, cap_k, cap_f, lend_l, lend_f, sh_o, sh_l, sh_f, sh_k, Bool.or_true, Bool.true_or, Bool.or_false, Bool.false_or, intD, isLst, lstO, List.set_cons_zero, List.set_cons_succ, bind_S, ty_i, ty_b, ty_s, ty_t, ty_l, ty_n, is_ii, is_ib, is_is, is_it, is_il, is_bi, is_bb, is_bs, is_bt, is_bl, is_si, is_sb, is_ss, is_st, is_sl, is_ti, is_tb, is_ts, is_tt, is_tl, is_li, is_lb, is_ls, is_lt, is_ll, is_ni, is_nb, is_ns, is_nt, is_nl, v_eqS, v_neS, v_inS, v_notInS, truD_n, truD_t, cap_o, cap_s, cap_n, cap_b, noL_s, its_t, own_t, own_s, its_s, sv_n, sv_i, sv_s, sv_b, isStr_s, isNon_n, isNon_i, isNon_s, isNon_t, isNon_l, v_tup, noL_lo, noL_lf, frz_lo, frz_lf, forL_0, kL_nx, kL_ct, kL_bk, kL_rt, kL_ex, tg_n, tg_t, tg_0, tg_s, wp_0, wp_s, bk_0, bk_s, rd_0, rd_s, sb_a, sb_l, si_a, si_l, hd_0, out_t, out_f, argD, ite_self, List.map_cons, List.map_nil, List.append_nil, List.cons_append, List.nil_append, Bool.and_true, Bool.true_and, Bool.not_true, Bool.not_false, Bool.and_false, Bool.false_and, true_and, and_true, decide_eq_true_eq, Bool.false_eq_true, if_false, if_true, ite_true, ite_false, reduceIte, Bool.not_eq_true', Bool.true_eq_false, eq_self, join_txt ho hs]
            exact rest
      exact tail p1 v1 .f _ _ _ h1
    · have hg' := Bool.eq_false_iff.mpr hg
      have el := ok_lchk (d := .lst .l (xs.map enc)) (xs := xs) Sq.l (by omega)
      have et := ok_lchk (d := .tup (xs.map enc)) (xs := xs) Sq.t (by omega)
      have gl := ok_good (d := .lst .l (xs.map enc)) (xs := xs) Sq.l
      rw [hg'] at gl
      simp only [hg', Bool.false_eq_true, if_false] at el et
      have gt := ok_good (d := .lst .l (xs.map enc)) (xs := xs) Sq.l
      refine step (L ns (some (stt ns p1 v1)) (some (.int k)) (some (rwD .o xs)) (some (rwD .o xs)) a5 a6 none none) (fun k1 Q hk => ?_) ?_
      · have t1 : gTuple [.lst .o (xs.map enc)] = some (.tup (xs.map enc)) := rfl
        simp only [L, e_cst, e_nil, e_yes, e_var, e_fv, e_mv, e_cons, e_dfr, e_op, e_tup, e_lst, e_tr, e_notT, e_andT, e_orT, e_andV, e_orV, e_notV, e_opq, e_if, e_call, e_callM, e_chain, e_src, e_rng, e_lc, g_nx, g_retN, g_brk, g_cnt, g_seq, g_drop, g_ret, g_asg, g_if, g_for, g_app, g_set, kk_ok, kS_ok, kQ_nx, kQ_rt, kQ_bk, kQ_ct, kk_ex, kS_ex, kQ_ex, g_raise, e_isi, g_asgT, e_grd, g_try, g_tryAs, g_appT, e_chainN, lkQ_1, lkQ_2, noX_rt, noX_nx, noX_bk, noX_ct, hdQ_0, hdQ_s, tryQ_ex, tryQ_rt, tryQ_nx, tryQ_bk, tryQ_ct, tasQ_ex, tasQ_rt, tasQ_nx, tasQ_bk, tasQ_ct, has_some, sl_0, sl_s, st_0, st_s, v_add, v_sub, v_neg, v_lt, v_le, v_gt, v_ge, v_eqi, v_nei, v_is, v_isNot, v_len, v_lenT, v_abs, v_int, v_item, v_itemT, v_list, v_max, v_min, v_repr, blD_bl, truD_bl, truD_lst, isF_int, isF_bl, isF_non, isF_tup, isF_str, isF_lf, isF_lk, isF_lo, isF_ll, at_0, at_1, at_2, ix_0, ix_1, ix_2, cap_i, cap_t, noL_i, noL_n, noL_b, noL_t, ck_0, ck_s, lk_0, lk_1, lk_2, lk_3, lk_4, ln_0, ln_1, ln_2, ln_3, ln_4, own_o, own_l, own_f, its_o, its_l, its_f, lend_o, lend_i, lend_b, lend_n, lend_s, lend_t, cap_k, cap_f, lend_l, lend_f, sh_o, sh_l, sh_f, sh_k, Bool.or_true, Bool.true_or, Bool.or_false, Bool.false_or, intD, isLst, lstO, List.set_cons_zero, List.set_cons_succ, bind_S, ty_i, ty_b, ty_s, ty_t, ty_l, ty_n, is_ii, is_ib, is_is, is_it, is_il, is_bi, is_bb, is_bs, is_bt, is_bl, is_si, is_sb, is_ss, is_st, is_sl, is_ti, is_tb, is_ts, is_tt, is_tl, is_li, is_lb, is_ls, is_lt, is_ll, is_ni, is_nb, is_ns, is_nt, is_nl, v_eqS, v_neS, v_inS, v_notInS, truD_n, truD_t, cap_o, cap_s, cap_n, cap_b, noL_s, its_t, own_t, own_s, its_s, sv_n, sv_i, sv_s, sv_b, isStr_s, isNon_n, isNon_i, isNon_s, isNon_t, isNon_l, v_tup, noL_lo, noL_lf, frz_lo, frz_lf, forL_0, kL_nx, kL_ct, kL_bk, kL_rt, kL_ex, tg_n, tg_t, tg_0, tg_s, wp_0, wp_s, bk_0, bk_s, rd_0, rd_s, sb_a, sb_l, si_a, si_l, hd_0, out_t, out_f, argD, ite_self, List.map_cons, List.map_nil, List.append_nil, List.cons_append, List.nil_append, Bool.and_true, Bool.true_and, Bool.not_true, Bool.not_false, Bool.and_false, Bool.false_and, true_and, and_true, decide_eq_true_eq, Bool.false_eq_true, if_false, if_true, ite_true, ite_false, reduceIte, Bool.not_eq_true', Bool.true_eq_false, eq_self, el, gl, t1, et, ne_non]
        exact hk
      refine step (L ns (some (stt ns p1 v1)) (some (.int k)) (some (rwD .o xs)) (some (rwD .o xs)) a5 a6 none none) (fun k1 Q hk => ?_) ?_
      · simp only [L, e_cst, e_nil, e_yes, e_var, e_fv, e_mv, e_cons, e_dfr, e_op, e_tup, e_lst, e_tr, e_notT, e_andT, e_orT, e_andV, e_orV, e_notV, e_opq, e_if, e_call, e_callM, e_chain, e_src, e_rng, e_lc, g_nx, g_retN, g_brk, g_cnt, g_seq, g_drop, g_ret, g_asg, g_if, g_for, g_app, g_set, kk_ok, kS_ok, kQ_nx, kQ_rt, kQ_bk, kQ_ct, kk_ex, kS_ex, kQ_ex, g_raise, e_isi, g_asgT, e_grd, g_try, g_tryAs, g_appT, e_chainN, lkQ_1, lkQ_2, noX_rt, noX_nx, noX_bk, noX_ct, hdQ_0, hdQ_s, tryQ_ex, tryQ_rt, tryQ_nx, tryQ_bk, tryQ_ct, tasQ_ex, tasQ_rt, tasQ_nx, tasQ_bk, tasQ_ct, has_some, sl_0, sl_s, st_0, st_s, v_add, v_sub, v_neg, v_lt, v_le, v_gt, v_ge, v_eqi, v_nei, v_is, v_isNot, v_len, v_lenT, v_abs, v_int, v_item, v_itemT, v_list, v_max, v_min, v_repr, blD_bl, truD_bl, truD_lst, isF_int, isF_bl, isF_non, isF_tup, isF_str, isF_lf, isF_lk, isF_lo, isF_ll, at_0, at_1, at_2, ix_0, ix_1, ix_2, cap_i, cap_t, noL_i, noL_n, noL_b, noL_t, ck_0, ck_s, lk_0, lk_1, lk_2, lk_3, lk_4, ln_0, ln_1, ln_2, ln_3, ln_4, own_o, own_l, own_f, its_o, its_l, its_f, lend_o, lend_i, lend_b, lend_n, lend_s, lend_t, cap_k, cap_f, lend_l, lend_f, sh_o, sh_l, sh_f, sh_k, Bool.or_true, Bool.true_or, Bool.or_false, Bool.false_or, intD, isLst, lstO, List.set_cons_zero, List.set_cons_succ, bind_S, ty_i, ty_b, ty_s, ty_t, ty_l, ty_n, is_ii, is_ib, is_is, is_it, is_il, is_bi, is_bb, is_bs, is_bt, is_bl, is_si, is_sb, is_ss, is_st, is_sl, is_ti, is_tb, is_ts, is_tt, is_tl, is_li, is_lb, is_ls, is_lt, is_ll, is_ni, is_nb, is_ns, is_nt, is_nl, v_eqS, v_neS, v_inS, v_notInS, truD_n, truD_t, cap_o, cap_s, cap_n, cap_b, noL_s, its_t, own_t, own_s, its_s, sv_n, sv_i, sv_s, sv_b, isStr_s, isNon_n, isNon_i, isNon_s, isNon_t, isNon_l, v_tup, noL_lo, noL_lf, frz_lo, frz_lf, forL_0, kL_nx, kL_ct, kL_bk, kL_rt, kL_ex, tg_n, tg_t, tg_0, tg_s, wp_0, wp_s, bk_0, bk_s, rd_0, rd_s, sb_a, sb_l, si_a, si_l, hd_0, out_t, out_f, argD, ite_self, List.map_cons, List.map_nil, List.append_nil, List.cons_append, List.nil_append, Bool.and_true, Bool.true_and, Bool.not_true, Bool.not_false, Bool.and_false, Bool.false_and, true_and, and_true, decide_eq_true_eq, Bool.false_eq_true, if_false, if_true, ite_true, ite_false, reduceIte, Bool.not_eq_true', Bool.true_eq_false, eq_self, gl]
        exact hk
      exact tail p1 v1 .f _ _ _ h1
theorem law_ok (ns : List Int) (hl : ns.length ≤ 63) : LawOk F_law ns := by
  unfold LawOk
  have key : F_law [scr ns] = some (.ok (.bl true), [none]) := by
    unfold F_law
    refine fn_go rfl ?_
    show Go ev_law (L ns none none none none none none none none) _
    unfold ev_law
    refine step (L ns (some (stt ns 0 0)) none none none none none none none) (fun k Q hk => ?_) ?_
    · simp only [L, e_cst, e_nil, e_yes, e_var, e_fv, e_mv, e_cons, e_dfr, e_op, e_tup, e_lst, e_tr, e_notT, e_andT, e_orT, e_andV, e_orV, e_notV, e_opq, e_if, e_call, e_callM, e_chain, e_src, e_rng, e_lc, g_nx, g_retN, g_brk, g_cnt, g_seq, g_drop, g_ret, g_asg, g_if, g_for, g_app, g_set, kk_ok, kS_ok, kQ_nx, kQ_rt, kQ_bk, kQ_ct, kk_ex, kS_ex, kQ_ex, g_raise, e_isi, g_asgT, e_grd, g_try, g_tryAs, g_appT, e_chainN, lkQ_1, lkQ_2, noX_rt, noX_nx, noX_bk, noX_ct, hdQ_0, hdQ_s, tryQ_ex, tryQ_rt, tryQ_nx, tryQ_bk, tryQ_ct, tasQ_ex, tasQ_rt, tasQ_nx, tasQ_bk, tasQ_ct, has_some, sl_0, sl_s, st_0, st_s, v_add, v_sub, v_neg, v_lt, v_le, v_gt, v_ge, v_eqi, v_nei, v_is, v_isNot, v_len, v_lenT, v_abs, v_int, v_item, v_itemT, v_list, v_max, v_min, v_repr, blD_bl, truD_bl, truD_lst, isF_int, isF_bl, isF_non, isF_tup, isF_str, isF_lf, isF_lk, isF_lo, isF_ll, at_0, at_1, at_2, ix_0, ix_1, ix_2, cap_i, cap_t, noL_i, noL_n, noL_b, noL_t, ck_0, ck_s, lk_0, lk_1, lk_2, lk_3, lk_4, ln_0, ln_1, ln_2, ln_3, ln_4, own_o, own_l, own_f, its_o, its_l, its_f, lend_o, lend_i, lend_b, lend_n, lend_s, lend_t, cap_k, cap_f, lend_l, lend_f, sh_o, sh_l, sh_f, sh_k, Bool.or_true, Bool.true_or, Bool.or_false, Bool.false_or, intD, isLst, lstO, List.set_cons_zero, List.set_cons_succ, bind_S, ty_i, ty_b, ty_s, ty_t, ty_l, ty_n, is_ii, is_ib, is_is, is_it, is_il, is_bi, is_bb, is_bs, is_bt, is_bl, is_si, is_sb, is_ss, is_st, is_sl, is_ti, is_tb, is_ts, is_tt, is_tl, is_li, is_lb, is_ls, is_lt, is_ll, is_ni, is_nb, is_ns, is_nt, is_nl, v_eqS, v_neS, v_inS, v_notInS, truD_n, truD_t, cap_o, cap_s, cap_n, cap_b, noL_s, its_t, own_t, own_s, its_s, sv_n, sv_i, sv_s, sv_b, isStr_s, isNon_n, isNon_i, isNon_s, isNon_t, isNon_l, v_tup, noL_lo, noL_lf, frz_lo, frz_lf, forL_0, kL_nx, kL_ct, kL_bk, kL_rt, kL_ex, tg_n, tg_t, tg_0, tg_s, wp_0, wp_s, bk_0, bk_s, rd_0, rd_s, sb_a, sb_l, si_a, si_l, hd_0, out_t, out_f, argD, ite_self, List.map_cons, List.map_nil, List.append_nil, List.cons_append, List.nil_append, Bool.and_true, Bool.true_and, Bool.not_true, Bool.not_false, Bool.and_false, Bool.false_and, true_and, and_true, decide_eq_true_eq, Bool.false_eq_true, if_false, if_true, ite_true, ite_false, reduceIte, Bool.not_eq_true', Bool.true_eq_false, eq_self]
      exact hk
    simp only [L, e_cst, e_nil, e_yes, e_var, e_fv, e_mv, e_cons, e_dfr, e_op, e_tup, e_lst, e_tr, e_notT, e_andT, e_orT, e_andV, e_orV, e_notV, e_opq, e_if, e_call, e_callM, e_chain, e_src, e_rng, e_lc, g_nx, g_retN, g_brk, g_cnt, g_seq, g_drop, g_ret, g_asg, g_if, g_for, g_app, g_set, kk_ok, kS_ok, kQ_nx, kQ_rt, kQ_bk, kQ_ct, kk_ex, kS_ex, kQ_ex, g_raise, e_isi, g_asgT, e_grd, g_try, g_tryAs, g_appT, e_chainN, lkQ_1, lkQ_2, noX_rt, noX_nx, noX_bk, noX_ct, hdQ_0, hdQ_s, tryQ_ex, tryQ_rt, tryQ_nx, tryQ_bk, tryQ_ct, tasQ_ex, tasQ_rt, tasQ_nx, tasQ_bk, tasQ_ct, has_some, sl_0, sl_s, st_0, st_s, v_add, v_sub, v_neg, v_lt, v_le, v_gt, v_ge, v_eqi, v_nei, v_is, v_isNot, v_len, v_lenT, v_abs, v_int, v_item, v_itemT, v_list, v_max, v_min, v_repr, blD_bl, truD_bl, truD_lst, isF_int, isF_bl, isF_non, isF_tup, isF_str, isF_lf, isF_lk, isF_lo, isF_ll, at_0, at_1, at_2, ix_0, ix_1, ix_2, cap_i, cap_t, noL_i, noL_n, noL_b, noL_t, ck_0, ck_s, lk_0, lk_1, lk_2, lk_3, lk_4, ln_0, ln_1, ln_2, ln_3, ln_4, own_o, own_l, own_f, its_o, its_l, its_f, lend_o, lend_i, lend_b, lend_n, lend_s, lend_t, cap_k, cap_f, lend_l, lend_f, sh_o, sh_l, sh_f, sh_k, Bool.or_true, Bool.true_or, Bool.or_false, Bool.false_or, intD, isLst, lstO, List.set_cons_zero, List.set_cons_succ, bind_S, ty_i, ty_b, ty_s, ty_t, ty_l, ty_n, is_ii, is_ib, is_is, is_it, is_il, is_bi, is_bb, is_bs, is_bt, is_bl, is_si, is_sb, is_ss, is_st, is_sl, is_ti, is_tb, is_ts, is_tt, is_tl, is_li, is_lb, is_ls, is_lt, is_ll, is_ni, is_nb, is_ns, is_nt, is_nl, v_eqS, v_neS, v_inS, v_notInS, truD_n, truD_t, cap_o, cap_s, cap_n, cap_b, noL_s, its_t, own_t, own_s, its_s, sv_n, sv_i, sv_s, sv_b, isStr_s, isNon_n, isNon_i, isNon_s, isNon_t, isNon_l, v_tup, noL_lo, noL_lf, frz_lo, frz_lf, forL_0, kL_nx, kL_ct, kL_bk, kL_rt, kL_ex, tg_n, tg_t, tg_0, tg_s, wp_0, wp_s, bk_0, bk_s, rd_0, rd_s, sb_a, sb_l, si_a, si_l, hd_0, out_t, out_f, argD, ite_self, List.map_cons, List.map_nil, List.append_nil, List.cons_append, List.nil_append, Bool.and_true, Bool.true_and, Bool.not_true, Bool.not_false, Bool.and_false, Bool.false_and, true_and, and_true, decide_eq_true_eq, Bool.false_eq_true, if_false, if_true, ite_true, ite_false, reduceIte, Bool.not_eq_true', Bool.true_eq_false, eq_self, rng1_i 4 (by decide)]
    refine lp_law (mins 0 4) 0 0 none none none none none (by decide) fun p v a2 a3 a4 a5 a6 => ?_
    have em : Str.ofString "" = S [] := by decide +kernel
    have e1 := ok_lread [] (by simp)
    have e2 : dueD .o [] = .str (Str.ofString "span") := by rfl
    have e3 := ok_format (m := .f) (s := []) Sq.f ⟨by simp, by simp⟩
    have e4 : S (txt []) = Str.ofString "-" := dash.symm
    rw [e2] at e1
    rw [e4] at e3
    have e5 : ∀ z : Str, gEq [.str z, .str z] = some (.bl true) := fun z => by rw [v_eqS]; simp
    simp only [L, e_cst, e_nil, e_yes, e_var, e_fv, e_mv, e_cons, e_dfr, e_op, e_tup, e_lst, e_tr, e_notT, e_andT, e_orT, e_andV, e_orV, e_notV, e_opq, e_if, e_call, e_callM, e_chain, e_src, e_rng, e_lc, g_nx, g_retN, g_brk, g_cnt, g_seq, g_drop, g_ret, g_asg, g_if, g_for, g_app, g_set, kk_ok, kS_ok, kQ_nx, kQ_rt, kQ_bk, kQ_ct, kk_ex, kS_ex, kQ_ex, g_raise, e_isi, g_asgT, e_grd, g_try, g_tryAs, g_appT, e_chainN, lkQ_1, lkQ_2, noX_rt, noX_nx, noX_bk, noX_ct, hdQ_0, hdQ_s, tryQ_ex, tryQ_rt, tryQ_nx, tryQ_bk, tryQ_ct, tasQ_ex, tasQ_rt, tasQ_nx, tasQ_bk, tasQ_ct, has_some, sl_0, sl_s, st_0, st_s, v_add, v_sub, v_neg, v_lt, v_le, v_gt, v_ge, v_eqi, v_nei, v_is, v_isNot, v_len, v_lenT, v_abs, v_int, v_item, v_itemT, v_list, v_max, v_min, v_repr, blD_bl, truD_bl, truD_lst, isF_int, isF_bl, isF_non, isF_tup, isF_str, isF_lf, isF_lk, isF_lo, isF_ll, at_0, at_1, at_2, ix_0, ix_1, ix_2, cap_i, cap_t, noL_i, noL_n, noL_b, noL_t, ck_0, ck_s, lk_0, lk_1, lk_2, lk_3, lk_4, ln_0, ln_1, ln_2, ln_3, ln_4, own_o, own_l, own_f, its_o, its_l, its_f, lend_o, lend_i, lend_b, lend_n, lend_s, lend_t, cap_k, cap_f, lend_l, lend_f, sh_o, sh_l, sh_f, sh_k, Bool.or_true, Bool.true_or, Bool.or_false, Bool.false_or, intD, isLst, lstO, List.set_cons_zero, List.set_cons_succ, bind_S, ty_i, ty_b, ty_s, ty_t, ty_l, ty_n, is_ii, is_ib, is_is, is_it, is_il, is_bi, is_bb, is_bs, is_bt, is_bl, is_si, is_sb, is_ss, is_st, is_sl, is_ti, is_tb, is_ts, is_tt, is_tl, is_li, is_lb, is_ls, is_lt, is_ll, is_ni, is_nb, is_ns, is_nt, is_nl, v_eqS, v_neS, v_inS, v_notInS, truD_n, truD_t, cap_o, cap_s, cap_n, cap_b, noL_s, its_t, own_t, own_s, its_s, sv_n, sv_i, sv_s, sv_b, isStr_s, isNon_n, isNon_i, isNon_s, isNon_t, isNon_l, v_tup, noL_lo, noL_lf, frz_lo, frz_lf, forL_0, kL_nx, kL_ct, kL_bk, kL_rt, kL_ex, tg_n, tg_t, tg_0, tg_s, wp_0, wp_s, bk_0, bk_s, rd_0, rd_s, sb_a, sb_l, si_a, si_l, hd_0, out_t, out_f, argD, ite_self, List.map_cons, List.map_nil, List.append_nil, List.cons_append, List.nil_append, Bool.and_true, Bool.true_and, Bool.not_true, Bool.not_false, Bool.and_false, Bool.false_and, true_and, and_true, decide_eq_true_eq, Bool.false_eq_true, if_false, if_true, ite_true, ite_false, reduceIte, Bool.not_eq_true', Bool.true_eq_false, eq_self, em, e1, e5]
    simp only [List.map_nil] at e3
    simp only [e_cst, e_nil, e_yes, e_var, e_fv, e_mv, e_cons, e_dfr, e_op, e_tup, e_lst, e_tr, e_notT, e_andT, e_orT, e_andV, e_orV, e_notV, e_opq, e_if, e_call, e_callM, e_chain, e_src, e_rng, e_lc, g_nx, g_retN, g_brk, g_cnt, g_seq, g_drop, g_ret, g_asg, g_if, g_for, g_app, g_set, kk_ok, kS_ok, kQ_nx, kQ_rt, kQ_bk, kQ_ct, kk_ex, kS_ex, kQ_ex, g_raise, e_isi, g_asgT, e_grd, g_try, g_tryAs, g_appT, e_chainN, lkQ_1, lkQ_2, noX_rt, noX_nx, noX_bk, noX_ct, hdQ_0, hdQ_s, tryQ_ex, tryQ_rt, tryQ_nx, tryQ_bk, tryQ_ct, tasQ_ex, tasQ_rt, tasQ_nx, tasQ_bk, tasQ_ct, has_some, sl_0, sl_s, st_0, st_s, v_add, v_sub, v_neg, v_lt, v_le, v_gt, v_ge, v_eqi, v_nei, v_is, v_isNot, v_len, v_lenT, v_abs, v_int, v_item, v_itemT, v_list, v_max, v_min, v_repr, blD_bl, truD_bl, truD_lst, isF_int, isF_bl, isF_non, isF_tup, isF_str, isF_lf, isF_lk, isF_lo, isF_ll, at_0, at_1, at_2, ix_0, ix_1, ix_2, cap_i, cap_t, noL_i, noL_n, noL_b, noL_t, ck_0, ck_s, lk_0, lk_1, lk_2, lk_3, lk_4, ln_0, ln_1, ln_2, ln_3, ln_4, own_o, own_l, own_f, its_o, its_l, its_f, lend_o, lend_i, lend_b, lend_n, lend_s, lend_t, cap_k, cap_f, lend_l, lend_f, sh_o, sh_l, sh_f, sh_k, Bool.or_true, Bool.true_or, Bool.or_false, Bool.false_or, intD, isLst, lstO, List.set_cons_zero, List.set_cons_succ, bind_S, ty_i, ty_b, ty_s, ty_t, ty_l, ty_n, is_ii, is_ib, is_is, is_it, is_il, is_bi, is_bb, is_bs, is_bt, is_bl, is_si, is_sb, is_ss, is_st, is_sl, is_ti, is_tb, is_ts, is_tt, is_tl, is_li, is_lb, is_ls, is_lt, is_ll, is_ni, is_nb, is_ns, is_nt, is_nl, v_eqS, v_neS, v_inS, v_notInS, truD_n, truD_t, cap_o, cap_s, cap_n, cap_b, noL_s, its_t, own_t, own_s, its_s, sv_n, sv_i, sv_s, sv_b, isStr_s, isNon_n, isNon_i, isNon_s, isNon_t, isNon_l, v_tup, noL_lo, noL_lf, frz_lo, frz_lf, forL_0, kL_nx, kL_ct, kL_bk, kL_rt, kL_ex, tg_n, tg_t, tg_0, tg_s, wp_0, wp_s, bk_0, bk_s, rd_0, rd_s, sb_a, sb_l, si_a, si_l, hd_0, out_t, out_f, argD, ite_self, List.map_cons, List.map_nil, List.append_nil, List.cons_append, List.nil_append, Bool.and_true, Bool.true_and, Bool.not_true, Bool.not_false, Bool.and_false, Bool.false_and, true_and, and_true, decide_eq_true_eq, Bool.false_eq_true, if_false, if_true, ite_true, ite_false, reduceIte, Bool.not_eq_true', Bool.true_eq_false, eq_self, e3, e5]
    rfl
  exact ⟨[none], key⟩
end K12
namespace K12
open PySem L2 PD PyProof.Rows
def xnames : List Str := ["BarError", "InvalidNumber", "InvalidSpan"]
def gc (K : PySem.W.Frag) : GC := gcN xnames K
def d_is_number : He.DefD := ⟨("is_number", none), "is_number", "is_number", defArgs s_is_number, defBody s_is_number, defScope s_is_number, [.int 0, .int 1000000], []⟩
def d_checked_number : He.DefD := ⟨("checked_number", none), "checked_number", "checked_number", defArgs s_checked_number, defBody s_checked_number, defScope s_checked_number, [.int 0, .int 1000000], []⟩
def d_read_number : He.DefD := ⟨("read_number", none), "read_number", "read_number", defArgs s_read_number, defBody s_read_number, defScope s_read_number, [.int 0, .int 1000000], []⟩
def d_checked_spans : He.DefD := ⟨("checked_spans", none), "checked_spans", "checked_spans", defArgs s_checked_spans, defBody s_checked_spans, defScope s_checked_spans, [], []⟩
def d_format_spans : He.DefD := ⟨("format_spans", none), "format_spans", "format_spans", defArgs s_format_spans, defBody s_format_spans, defScope s_format_spans, [], []⟩
def d_parse_spans : He.DefD := ⟨("parse_spans", none), "parse_spans", "parse_spans", defArgs s_parse_spans, defBody s_parse_spans, defScope s_parse_spans, [], []⟩
def d__law_cell : He.DefD := ⟨("_law_cell", none), "_law_cell", "_law_cell", defArgs s__law_cell, defBody s__law_cell, defScope s__law_cell, [], []⟩
def d__law_take : He.DefD := ⟨("_law_take", none), "_law_take", "_law_take", defArgs s__law_take, defBody s__law_take, defScope s__law_take, [], []⟩
def d__law_spans : He.DefD := ⟨("_law_spans", none), "_law_spans", "_law_spans", defArgs s__law_spans, defBody s__law_spans, defScope s__law_spans, [], []⟩
def d__law_rows : He.DefD := ⟨("_law_rows", none), "_law_rows", "_law_rows", defArgs s__law_rows, defBody s__law_rows, defScope s__law_rows, [], []⟩
def d__law_good : He.DefD := ⟨("_law_good", none), "_law_good", "_law_good", defArgs s__law_good, defBody s__law_good, defScope s__law_good, [], []⟩
def d__law_checked : He.DefD := ⟨("_law_checked", none), "_law_checked", "_law_checked", defArgs s__law_checked, defBody s__law_checked, defScope s__law_checked, [], []⟩
def d__law_text : He.DefD := ⟨("_law_text", none), "_law_text", "_law_text", defArgs s__law_text, defBody s__law_text, defScope s__law_text, [], []⟩
def d__law_number : He.DefD := ⟨("_law_number", none), "_law_number", "_law_number", defArgs s__law_number, defBody s__law_number, defScope s__law_number, [], []⟩
def d__law_due : He.DefD := ⟨("_law_due", none), "_law_due", "_law_due", defArgs s__law_due, defBody s__law_due, defScope s__law_due, [], []⟩
def d__law_read : He.DefD := ⟨("_law_read", none), "_law_read", "_law_read", defArgs s__law_read, defBody s__law_read, defScope s__law_read, [], []⟩
def d_law : He.DefD := ⟨("law", none), "law", "law", defArgs s_law, defBody s_law, defScope s_law, [], []⟩
def fn : List He.DefD := [d_is_number, d_checked_number, d_read_number, d_checked_spans, d_format_spans, d_parse_spans, d__law_cell, d__law_take, d__law_spans, d__law_rows, d__law_good, d__law_checked, d__law_text, d__law_number, d__law_due, d__law_read, d_law]
def fa : List He.Fa := [.glo "is_number", .glo "checked_number", .glo "read_number", .glo "checked_spans", .glo "format_spans", .glo "parse_spans", .glo "_law_cell", .glo "_law_take", .glo "_law_spans", .glo "_law_rows", .glo "_law_good", .glo "_law_checked", .glo "_law_text", .glo "_law_number", .glo "_law_due", .glo "_law_read", .glo "law", .free "abs", .free "bool", .free "int", .free "isinstance", .free "len", .free "list", .free "min", .free "range", .free "str", .free "tuple", .int "FARTHEST" 20000, .str "FIGURES" "0123456789", .int "MOST" 60, .glo "BarError", .exc "BarError", .glo "InvalidNumber", .exc "InvalidNumber", .glo "InvalidSpan", .exc "InvalidSpan", .exm "BarError" "BarError" true, .exm "BarError" "InvalidNumber" false, .exm "BarError" "InvalidSpan" false, .exm "InvalidNumber" "BarError" true, .exm "InvalidNumber" "InvalidNumber" true, .exm "InvalidNumber" "InvalidSpan" false, .exm "InvalidSpan" "BarError" true, .exm "InvalidSpan" "InvalidNumber" false, .exm "InvalidSpan" "InvalidSpan" true]
abbrev R : PySem.W.OpenRow := PySem.W.OpenLaw.row PySem.Challenge.rw_overbar_k12_checked_spans_and_their_text
def more (K : PySem.W.Frag) : Bool := isB xnames exm K
abbrev hk : PySem.W.Hook := He.hookX 4 fa fn [] [] more
def ob (s : PySem.W.SharedT) : He.AlX := He.obsX 4 fa fn [] [] more (HandSHeadRun.getT s)
theorem ob_eq (s : PySem.W.SharedT) : ob s = hk.obs s.abs := He.obsX_eq (HandSHeadRun.getT_eq s)
def loose0 : List Str := ["BarError", "InvalidNumber", "InvalidSpan", "FIGURES", "GREATEST", "is_number", "checked_number", "read_number", "FARTHEST", "MOST", "checked_spans", "format_spans", "parse_spans", "_law_cell", "_law_take", "_law_spans", "_law_rows", "_law_good", "_law_checked", "_law_text", "_law_number", "_law_due", "_law_read"]
def loose : List Str := loose0
theorem run (w : World) : HandSHeadRun.RunEq R (PySem.W.view R.prog [27]) hk ob 2080 loose w := by
  intro os
  kernel_rfl
theorem facts {P : Program} {w : World} {K : PySem.W.Frag} {h : Heap} {mg : Str → Option Value} {f : Addr} (X : K.In h) (G : h.Ns mainGlobals mg) (hfa : mg ("law" : Str) = some (.ref f)) (cx : He.SaysX fa fn [] [] more w h K) :
    ∃ fd : FuncData, (∀ (s : Shared) (v : Value), BindsTo s fd ⟨[v], []⟩ [("script", v)]) ∧ ∀ base : Heap, K.In base → base.Ns mainGlobals mg → FnOk P w K mg base (L2.CX P w) 6 f fd ["script"] (spF (gc K) F_law) := by
  have c := cx.t.d
  obtain ⟨fd_is_number, D_is_number⟩ := c.def_ 0 (d := d_is_number) rfl
  have g_is_number := He.glo_ok X G (c.fact 0 (f := .glo "is_number") rfl)
  obtain ⟨fd_checked_number, D_checked_number⟩ := c.def_ 1 (d := d_checked_number) rfl
  have g_checked_number := He.glo_ok X G (c.fact 1 (f := .glo "checked_number") rfl)
  obtain ⟨fd_read_number, D_read_number⟩ := c.def_ 2 (d := d_read_number) rfl
  have g_read_number := He.glo_ok X G (c.fact 2 (f := .glo "read_number") rfl)
  obtain ⟨fd_checked_spans, D_checked_spans⟩ := c.def_ 3 (d := d_checked_spans) rfl
  have g_checked_spans := He.glo_ok X G (c.fact 3 (f := .glo "checked_spans") rfl)
  obtain ⟨fd_format_spans, D_format_spans⟩ := c.def_ 4 (d := d_format_spans) rfl
  have g_format_spans := He.glo_ok X G (c.fact 4 (f := .glo "format_spans") rfl)
  obtain ⟨fd_parse_spans, D_parse_spans⟩ := c.def_ 5 (d := d_parse_spans) rfl
  have g_parse_spans := He.glo_ok X G (c.fact 5 (f := .glo "parse_spans") rfl)
  obtain ⟨fd__law_cell, D__law_cell⟩ := c.def_ 6 (d := d__law_cell) rfl
  have g__law_cell := He.glo_ok X G (c.fact 6 (f := .glo "_law_cell") rfl)
  obtain ⟨fd__law_take, D__law_take⟩ := c.def_ 7 (d := d__law_take) rfl
  have g__law_take := He.glo_ok X G (c.fact 7 (f := .glo "_law_take") rfl)
  obtain ⟨fd__law_spans, D__law_spans⟩ := c.def_ 8 (d := d__law_spans) rfl
  have g__law_spans := He.glo_ok X G (c.fact 8 (f := .glo "_law_spans") rfl)
  obtain ⟨fd__law_rows, D__law_rows⟩ := c.def_ 9 (d := d__law_rows) rfl
  have g__law_rows := He.glo_ok X G (c.fact 9 (f := .glo "_law_rows") rfl)
  obtain ⟨fd__law_good, D__law_good⟩ := c.def_ 10 (d := d__law_good) rfl
  have g__law_good := He.glo_ok X G (c.fact 10 (f := .glo "_law_good") rfl)
  obtain ⟨fd__law_checked, D__law_checked⟩ := c.def_ 11 (d := d__law_checked) rfl
  have g__law_checked := He.glo_ok X G (c.fact 11 (f := .glo "_law_checked") rfl)
  obtain ⟨fd__law_text, D__law_text⟩ := c.def_ 12 (d := d__law_text) rfl
  have g__law_text := He.glo_ok X G (c.fact 12 (f := .glo "_law_text") rfl)
  obtain ⟨fd__law_number, D__law_number⟩ := c.def_ 13 (d := d__law_number) rfl
  have g__law_number := He.glo_ok X G (c.fact 13 (f := .glo "_law_number") rfl)
  obtain ⟨fd__law_due, D__law_due⟩ := c.def_ 14 (d := d__law_due) rfl
  have g__law_due := He.glo_ok X G (c.fact 14 (f := .glo "_law_due") rfl)
  obtain ⟨fd__law_read, D__law_read⟩ := c.def_ 15 (d := d__law_read) rfl
  have g__law_read := He.glo_ok X G (c.fact 15 (f := .glo "_law_read") rfl)
  obtain ⟨fd_law, D_law⟩ := c.def_ 16 (d := d_law) rfl
  have g_law := He.glo_ok X G (c.fact 16 (f := .glo "law") rfl)
  have m_abs : mg (Str.ofString "abs") = none := He.free_ok X G (c.fact 17 (f := .free "abs") rfl)
  have m_bool : mg (Str.ofString "bool") = none := He.free_ok X G (c.fact 18 (f := .free "bool") rfl)
  have m_int : mg (Str.ofString "int") = none := He.free_ok X G (c.fact 19 (f := .free "int") rfl)
  have m_isinstance : mg (Str.ofString "isinstance") = none := He.free_ok X G (c.fact 20 (f := .free "isinstance") rfl)
  have m_len : mg (Str.ofString "len") = none := He.free_ok X G (c.fact 21 (f := .free "len") rfl)
  have m_list : mg (Str.ofString "list") = none := He.free_ok X G (c.fact 22 (f := .free "list") rfl)
  have m_min : mg (Str.ofString "min") = none := He.free_ok X G (c.fact 23 (f := .free "min") rfl)
  have m_range : mg (Str.ofString "range") = none := He.free_ok X G (c.fact 24 (f := .free "range") rfl)
  have m_str : mg (Str.ofString "str") = none := He.free_ok X G (c.fact 25 (f := .free "str") rfl)
  have m_tuple : mg (Str.ofString "tuple") = none := He.free_ok X G (c.fact 26 (f := .free "tuple") rfl)
  have e := hfa.symm.trans g_law
  cases e
  refine ⟨fd_law, fun s v => (FunD.bindsA (ps := ["script"]) D_law fun _ _ _ _ _ _ us hl => match us, hl with | [_], _ => rfl) s [v] rfl, fun base _ _ => ?_⟩
  have g_FARTHEST : ∃ u, mg (Str.ofString "FARTHEST") = some u ∧ RelV (.int 20000) u := let ⟨t, h⟩ := He.int_ok X G (c.fact 27 (f := .int "FARTHEST" 20000) rfl); ⟨_, h, t, rfl⟩
  have g_FIGURES : ∃ u, mg (Str.ofString "FIGURES") = some u ∧ RelV (.str (Str.ofString "0123456789")) u := let ⟨t, h⟩ := He.str_ok X G (c.fact 28 (f := .str "FIGURES" "0123456789") rfl); ⟨_, h, t, rfl⟩
  have g_MOST : ∃ u, mg (Str.ofString "MOST") = some u ∧ RelV (.int 60) u := let ⟨t, h⟩ := He.int_ok X G (c.fact 29 (f := .int "MOST" 60) rfl); ⟨_, h, t, rfl⟩
  let E : En := ⟨P, w, K, mg, base⟩
  have x_BarError : ExF E (gc K) (Str.ofString "BarError") 0 := let e := He.exc_ok (c.fact 31 (f := .exc "BarError") rfl); ⟨He.glo_ok X G (c.fact 30 (f := .glo "BarError") rfl), e.1, e.2.1, e.2.2.1, e.2.2.2⟩
  have x_InvalidNumber : ExF E (gc K) (Str.ofString "InvalidNumber") 1 := let e := He.exc_ok (c.fact 33 (f := .exc "InvalidNumber") rfl); ⟨He.glo_ok X G (c.fact 32 (f := .glo "InvalidNumber") rfl), e.1, e.2.1, e.2.2.1, e.2.2.2⟩
  have x_InvalidSpan : ExF E (gc K) (Str.ofString "InvalidSpan") 2 := let e := He.exc_ok (c.fact 35 (f := .exc "InvalidSpan") rfl); ⟨He.glo_ok X G (c.fact 34 (f := .glo "InvalidSpan") rfl), e.1, e.2.1, e.2.2.1, e.2.2.2⟩
  have hx : HxOk E (gc K) 3 exm := fun i j hi hj => by
    match i, hi, j, hj with
    | 0, _, 0, _ => exact He.exm_ok (c.fact 36 (f := .exm "BarError" "BarError" true) rfl)
    | 0, _, 1, _ => exact He.exm_ok (c.fact 37 (f := .exm "BarError" "InvalidNumber" false) rfl)
    | 0, _, 2, _ => exact He.exm_ok (c.fact 38 (f := .exm "BarError" "InvalidSpan" false) rfl)
    | 1, _, 0, _ => exact He.exm_ok (c.fact 39 (f := .exm "InvalidNumber" "BarError" true) rfl)
    | 1, _, 1, _ => exact He.exm_ok (c.fact 40 (f := .exm "InvalidNumber" "InvalidNumber" true) rfl)
    | 1, _, 2, _ => exact He.exm_ok (c.fact 41 (f := .exm "InvalidNumber" "InvalidSpan" false) rfl)
    | 2, _, 0, _ => exact He.exm_ok (c.fact 42 (f := .exm "InvalidSpan" "BarError" true) rfl)
    | 2, _, 1, _ => exact He.exm_ok (c.fact 43 (f := .exm "InvalidSpan" "InvalidNumber" false) rfl)
    | 2, _, 2, _ => exact He.exm_ok (c.fact 44 (f := .exm "InvalidSpan" "InvalidSpan" true) rfl)
  have hk : IsOk E (gc K) 3 exm := isB_ok (E := E) cx.more
  have hG : (gc K).K = E.K := rfl
  have k_is_number := fd_of (E := E) (G := gc K) (m := false) D_is_number g_is_number sc_is_number (by decide) (by decide) (b_is_number (E := E) (G := gc K) hG m_bool m_int m_isinstance)
  have c_is_number : Fd E (gc K) (Str.ofString "is_number") 1 F_is_number [] := fd_dfl k_is_number g_is_number D_is_number.kp (FunD.binds1 (ps := ["value", "least", "most"]) D_is_number 3 2 (List.cons_ne_nil _ _) rfl fun T kV doc pm an cdv ct us its hl hi => match us, its, hl, hi with | [_, _, _], [_, _], _, _ => ⟨_, rfl, rfl⟩) (cst_nil)
  have k_checked_spans := fd_of (E := E) (G := gc K) (m := false) D_checked_spans g_checked_spans sc_checked_spans (by decide) (by decide) (b_checked_spans (E := E) (G := gc K) hG m_isinstance m_len m_tuple g_FARTHEST g_MOST x_InvalidSpan c_is_number)
  have c_checked_spans : Fd E (gc K) (Str.ofString "checked_spans") 2 F_checked_spans [] := fd_all k_checked_spans g_checked_spans D_checked_spans.kp (FunD.bindsN D_checked_spans fun _ _ _ _ _ _ us hl => match us, hl with | [_], _ => rfl)
  have k_format_spans := fd_of (E := E) (G := gc K) (m := false) D_format_spans g_format_spans sc_format_spans (by decide) (by decide) (b_format_spans (E := E) (G := gc K) hG m_str)
  have c_format_spans : Fd E (gc K) (Str.ofString "format_spans") 1 F_format_spans [] := fd_all k_format_spans g_format_spans D_format_spans.kp (FunD.bindsN D_format_spans fun _ _ _ _ _ _ us hl => match us, hl with | [_], _ => rfl)
  have k_checked_number := fd_of (E := E) (G := gc K) (m := false) D_checked_number g_checked_number sc_checked_number (by decide) (by decide) (b_checked_number (E := E) (G := gc K) hG m_str x_InvalidNumber c_is_number)
  have c_checked_number : Fd E (gc K) (Str.ofString "checked_number") 2 F_checked_number [] := fd_dfl k_checked_number g_checked_number D_checked_number.kp (FunD.binds1 (ps := ["value", "least", "most"]) D_checked_number 3 2 (List.cons_ne_nil _ _) rfl fun T kV doc pm an cdv ct us its hl hi => match us, its, hl, hi with | [_, _, _], [_, _], _, _ => ⟨_, rfl, rfl⟩) (cst_nil)
  have k_read_number := fd_of (E := E) (G := gc K) (m := false) D_read_number g_read_number sc_read_number (by decide) (by decide) (b_read_number (E := E) (G := gc K) hG m_int m_isinstance m_len m_str g_FIGURES x_InvalidNumber c_checked_number)
  have c_read_number_2 : Fd E (gc K) (Str.ofString "read_number") 3 F_read_number [.int 0, .int 1000000] := fd_dfl k_read_number g_read_number D_read_number.kp (FunD.binds1 (ps := ["word", "least", "most"]) D_read_number 1 0 (List.cons_ne_nil _ _) rfl fun T kV doc pm an cdv ct us its hl hi => match us, its, hl, hi with | [_], [_, _], _, _ => ⟨_, rfl, rfl⟩) (cst_cons (fun _ _ => .int _) (cst_cons (fun _ _ => .int _) (cst_nil)))
  have k_parse_spans := fd_of (E := E) (G := gc K) (m := false) D_parse_spans g_parse_spans sc_parse_spans (by decide) (by decide) (b_parse_spans (E := E) (G := gc K) hG m_len x_InvalidSpan c_checked_spans c_read_number_2)
  have c_parse_spans : Fd E (gc K) (Str.ofString "parse_spans") 4 F_parse_spans [] := fd_all k_parse_spans g_parse_spans D_parse_spans.kp (FunD.bindsN D_parse_spans fun _ _ _ _ _ _ us hl => match us, hl with | [_], _ => rfl)
  have k__law_cell := fd_of (E := E) (G := gc K) (m := false) D__law_cell g__law_cell sc__law_cell (by decide) (by decide) (b__law_cell (E := E) (G := gc K) hG m_abs m_int m_len)
  have c__law_cell : Fd E (gc K) (Str.ofString "_law_cell") 1 F__law_cell [] := fd_all k__law_cell g__law_cell D__law_cell.kp (FunD.bindsN D__law_cell fun _ _ _ _ _ _ us hl => match us, hl with | [_, _], _ => rfl)
  have k__law_take := fd_of (E := E) (G := gc K) (m := true) D__law_take g__law_take sc__law_take (by decide) (by decide) (b__law_take (E := E) (G := gc K) hG m_int c__law_cell)
  have c__law_take : Fd E (gc K) (Str.ofString "_law_take") 2 F__law_take [] := fd_all k__law_take g__law_take D__law_take.kp (FunD.bindsN D__law_take fun _ _ _ _ _ _ us hl => match us, hl with | [_, _], _ => rfl)
  have k__law_spans := fd_of (E := E) (G := gc K) (m := true) D__law_spans g__law_spans sc__law_spans (by decide) (by decide) (b__law_spans (E := E) (G := gc K) hG m_min m_range c__law_take)
  have c__law_spans : Fd E (gc K) (Str.ofString "_law_spans") 3 F__law_spans [] := fd_all k__law_spans g__law_spans D__law_spans.kp (FunD.bindsN D__law_spans fun _ _ _ _ _ _ us hl => match us, hl with | [_, _, _], _ => rfl)
  have k__law_rows := fd_of (E := E) (G := gc K) (m := true) D__law_rows g__law_rows sc__law_rows (by decide) (by decide) (b__law_rows (E := E) (G := gc K) hG m_len m_range c__law_spans c__law_take)
  have c__law_rows : Fd E (gc K) (Str.ofString "_law_rows") 4 F__law_rows [] := fd_all k__law_rows g__law_rows D__law_rows.kp (FunD.bindsN D__law_rows fun _ _ _ _ _ _ us hl => match us, hl with | [_], _ => rfl)
  have k__law_good := fd_of (E := E) (G := gc K) (m := false) D__law_good g__law_good sc__law_good (by decide) (by decide) (b__law_good (E := E) (G := gc K) hG m_bool m_int m_isinstance m_len m_tuple)
  have c__law_good : Fd E (gc K) (Str.ofString "_law_good") 1 F__law_good [] := fd_all k__law_good g__law_good D__law_good.kp (FunD.bindsN D__law_good fun _ _ _ _ _ _ us hl => match us, hl with | [_], _ => rfl)
  have k__law_checked := fd_of (E := E) (G := gc K) (m := false) D__law_checked g__law_checked sc__law_checked (by decide) (by decide) (b__law_checked (E := E) (G := gc K) hG m_isinstance x_BarError x_InvalidSpan hx hk c_checked_spans)
  have c__law_checked : Fd E (gc K) (Str.ofString "_law_checked") 3 F__law_checked [] := fd_all k__law_checked g__law_checked D__law_checked.kp (FunD.bindsN D__law_checked fun _ _ _ _ _ _ us hl => match us, hl with | [_], _ => rfl)
  have k__law_text := fd_of (E := E) (G := gc K) (m := true) D__law_text g__law_text sc__law_text (by decide) (by decide) (b__law_text (E := E) (G := gc K) hG m_range m_str c__law_take)
  have c__law_text : Fd E (gc K) (Str.ofString "_law_text") 3 F__law_text [] := fd_all k__law_text g__law_text D__law_text.kp (FunD.bindsN D__law_text fun _ _ _ _ _ _ us hl => match us, hl with | [_], _ => rfl)
  have k__law_number := fd_of (E := E) (G := gc K) (m := false) D__law_number g__law_number sc__law_number (by decide) (by decide) (b__law_number (E := E) (G := gc K) hG m_int m_len)
  have c__law_number : Fd E (gc K) (Str.ofString "_law_number") 1 F__law_number [] := fd_all k__law_number g__law_number D__law_number.kp (FunD.bindsN D__law_number fun _ _ _ _ _ _ us hl => match us, hl with | [_], _ => rfl)
  have k__law_due := fd_of (E := E) (G := gc K) (m := false) D__law_due g__law_due sc__law_due (by decide) (by decide) (b__law_due (E := E) (G := gc K) hG m_len c__law_good c__law_number)
  have c__law_due : Fd E (gc K) (Str.ofString "_law_due") 2 F__law_due [] := fd_all k__law_due g__law_due D__law_due.kp (FunD.bindsN D__law_due fun _ _ _ _ _ _ us hl => match us, hl with | [_], _ => rfl)
  have k__law_read := fd_of (E := E) (G := gc K) (m := false) D__law_read g__law_read sc__law_read (by decide) (by decide) (b__law_read (E := E) (G := gc K) hG x_InvalidNumber x_InvalidSpan hx c_parse_spans)
  have c__law_read : Fd E (gc K) (Str.ofString "_law_read") 5 F__law_read [] := fd_all k__law_read g__law_read D__law_read.kp (FunD.bindsN D__law_read fun _ _ _ _ _ _ us hl => match us, hl with | [_], _ => rfl)
  exact fd_of (E := E) (G := gc K) (m := false) D_law g_law sc_law (by decide) (by decide) (b_law (E := E) (G := gc K) hG m_list m_range m_str m_tuple c__law_checked c__law_due c__law_good c__law_read c__law_rows c__law_text c_checked_spans c_format_spans c_parse_spans)
end K12
open PySem PySem.W PySem.Calls PyProof.Rows
theorem PySem.Challenge.cw_overbar_k12_checked_spans_and_their_text_holds : PySem.Challenge.rw_overbar_k12_checked_spans_and_their_text.Holds := by
  w_on; o_law
  refine HandSHeadRun.head_any (r := OpenLaw.row PySem.Challenge.rw_overbar_k12_checked_spans_and_their_text) (q := view (OpenLaw.row PySem.Challenge.rw_overbar_k12_checked_spans_and_their_text).prog [27]) (H := K12.hk) (ob := K12.ob) (M := 2080) (loose := K12.loose) (d := HandSHeadRun.topDef (OpenLaw.row PySem.Challenge.rw_overbar_k12_checked_spans_and_their_text).prog 27) (kwd := []) K12.ob_eq
    (by kernel_rfl) (fun s => by kernel_rfl) K12.run (by kernel_rfl) (by kernel_rfl) (by kernel_rfl) (by rfl) (by first | assumption | decide +kernel) (by decide +kernel) ⟨rfl, rfl, rfl, rfl, rfl, by decide +kernel⟩ ?hw ?hc
  case hw => w_witness2
  case hc =>
    refine L2.walk_ofE (l := PySem.Challenge.rw_overbar_k12_checked_spans_and_their_text) (n := 63) (k := 6) (x := "script") (CX := L2.CX0) rfl (by decide) (by kernel_rfl) ⟨rfl, by decide, by decide⟩ ?F ?G
    case G => exact fun _ _ _ _ z => z
    case F =>
      intro w mg fa h Y G hmg0
      obtain ⟨K, KX, c⟩ := Y
      have hmg : mg ("law" : PySem.Str) = some (.ref fa) := by
        have e : (HandSHeadRun.topDef (OpenLaw.row PySem.Challenge.rw_overbar_k12_checked_spans_and_their_text).prog 27).name = ("law" : PySem.Str) := by kernel_rfl
        rw [← e]
        exact hmg0
      obtain ⟨fd, hb, hF⟩ := K12.facts (P := (PySem.Challenge.rw_overbar_k12_checked_spans_and_their_text).prog) (w := w) KX G hmg c
      exact ⟨K, fd, fun vs H Q _ => PD.spF (K12.gc K) K12.F_law vs H Q fun _ _ _ => False, KX, hb, fun H a ns hl _ hS => PD.law_sp hS (K12.law_ok ns hl), fun base h1 h2 => PD.fnOk0 (hF base h1 h2)⟩
