import PyProof.Rows.All
import Wide.All
import OpenK.AllK
import Wide.FinOn
import PySem.Challenge.RW_overbar_k13_water_that_is_high_enough
import HandS.ForMost
import HandS.Exc
import HandS.TryOnly
import KE.DataEq
import KE.DataCmp
import KE.DataMinMax
import KE.DataIsa
import KE.DataFind
import KE.SortData
import HandS.StrMore
import HandS.Small
import HandS.Deep
import HandS.CallSlots
import HandS.Flow
import HandS.Head4
import HandS.HeadHook2
import HandS.Defaults
import HandS.HeadEnd
import HandS.HeadHook1
import HandS.IsInst
import HandS.TryMany
import HandS.Text
import HandS.ExcIs
import HandS.HeadHook3
import HandS.HeadHook4
import HandS.RevTup
import HandS.Rev
import HandS.More
import HandS.TupAny
import HandS.Codes
import HandS.WordsDict
import HandS.Sort
import PyProof.SumWalkG
import PyProof.SeqI3
import PyProof.Claim2Refuses
import HandS.OwnEq
import HandS.Head0
import HandS.Head1
import HandS.Head2
set_option Elab.async false
set_option linter.all false
set_option maxRecDepth 100000
set_option maxHeartbeats 8000000
/-! P, part 0: data D, and how a value of the abstract heap bears it. -/
namespace PD
open PySem L2

inductive Fl | f | o | oo | l | ll | k
  deriving DecidableEq

/-- data, as the pure evaluator sees it; a mutable node bears who may write it: f nobody (frozen), o its one holder (children frozen), oo its one holder (children may be owned), l, ll lent for a while, k locked (the script, a constant of the top) -/
inductive D where
  | non | bl (b : Bool) | int (i : Int) | str (s : Str)
  | tup (xs : List D)
  | lst (m : Fl) (xs : List D)
  | dic (m : Fl) (kvs : List (Key × D))
  | dit (m : Fl) (kvs : List (List Key × D))
  | ins (m : Fl) (c : Nat) (fs : List (Nat × D))
  | exc (c : Nat) (fs : List (Nat × D))

def isF : D → Bool
  | .lst m _ => m == .f || m == .k
  | .dic m _ => m == .f
  | .dit m _ => m == .f
  | .ins m _ _ => m == .f
  | .exc _ _ => false
  | _ => true

mutual
/-- nobody writes it any more -/
def frz : D → D
  | .lst m xs => match m with | .oo => .lst .f (frzL xs) | .k => .lst .k xs | _ => .lst .f xs
  | .dic m kvs => .dic .f (match m with | .oo => frzK kvs | _ => kvs)
  | .dit _ kvs => .dit .f kvs
  | .ins m c fs => .ins .f c (match m with | .f => fs | _ => frzN fs)
  | d => d
def frzL : List D → List D
  | [] => []
  | d :: r => frz d :: frzL r
def frzK : List (Key × D) → List (Key × D)
  | [] => []
  | (k, d) :: r => (k, frz d) :: frzK r
def frzN : List (Nat × D) → List (Nat × D)
  | [] => []
  | (k, d) :: r => (k, frz d) :: frzN r
end
mutual
/-- read by others for a while -/
def lend : D → D
  | .lst m xs => match m with | .o => .lst .l xs | .oo => .lst .ll (lendL xs) | m => .lst m xs
  | .dic m kvs => match m with | .o => .dic .l kvs | .oo => .dic .ll (lendK kvs) | m => .dic m kvs
  | .dit m kvs => match m with | .o => .dit .l kvs | m => .dit m kvs
  | .ins m c fs => match m with | .oo => .ins .ll c (lendN fs) | m => .ins m c fs
  | d => d
def lendL : List D → List D
  | [] => []
  | d :: r => lend d :: lendL r
def lendK : List (Key × D) → List (Key × D)
  | [] => []
  | (k, d) :: r => (k, lend d) :: lendK r
def lendN : List (Nat × D) → List (Nat × D)
  | [] => []
  | (k, d) :: r => (k, lend d) :: lendN r
end
theorem frzL_eq : ∀ xs : List D, frzL xs = xs.map frz
  | [] => rfl
  | d :: r => by rw [frzL, frzL_eq r]; rfl
theorem frzK_eq : ∀ xs : List (Key × D), frzK xs = xs.map fun p => (p.1, frz p.2)
  | [] => rfl
  | (k, d) :: r => by rw [frzK, frzK_eq r]; rfl
theorem frzN_eq : ∀ xs : List (Nat × D), frzN xs = xs.map fun p => (p.1, frz p.2)
  | [] => rfl
  | (k, d) :: r => by rw [frzN, frzN_eq r]; rfl
theorem lendL_eq : ∀ xs : List D, lendL xs = xs.map lend
  | [] => rfl
  | d :: r => by rw [lendL, lendL_eq r]; rfl
theorem lendK_eq : ∀ xs : List (Key × D), lendK xs = xs.map fun p => (p.1, lend p.2)
  | [] => rfl
  | (k, d) :: r => by rw [lendK, lendK_eq r]; rfl
theorem lendN_eq : ∀ xs : List (Nat × D), lendN xs = xs.map fun p => (p.1, lend p.2)
  | [] => rfl
  | (k, d) :: r => by rw [lendN, lendN_eq r]; rfl

/-- what of the text is written: K, the classes by number, the attributes' names by number -/
structure GC where
  K : PySem.W.Frag
  cls : Nat → Addr
  fld : Nat → Str

abbrev AS := Addr → Prop
def S0 : AS := fun _ => False
/-- a list, a tuple of the written part -/
def KwL (K : PySem.W.Frag) (a : Addr) (xs : List V) : Prop :=
  ∃ (o : Obj) (its : Array Value) (n : Nat), K.lookup a = some o ∧ o.cls = .type "list" ∧ o.dict = none ∧ o.data = .seq its n ∧ its.size ≤ sizeLine ∧ Vals xs its.toList
def KwT (K : PySem.W.Frag) (a : Addr) (xs : List V) : Prop :=
  ∃ (o : Obj) (its : Array Value) (n : Nat), K.lookup a = some o ∧ o.cls = .type "tuple" ∧ o.data = .seq its n ∧ its.size ≤ sizeLine ∧ Vals xs its.toList
/-- element by element -/
def El {α β : Type} (R : α → β → Prop) (xs : List α) (ys : List β) : Prop := xs.length = ys.length ∧ ∀ (i : Nat) x y, xs[i]? = some x → ys[i]? = some y → R x y

/-- frozen data: all that it reaches lies in Z -/
inductive RepF (G : GC) (Z : AS) (H : Hp) : D → V → Prop
  | non : RepF G Z H .non .non
  | bl (b : Bool) : RepF G Z H (.bl b) (.bl b)
  | int (i : Int) : RepF G Z H (.int i) (.int i)
  | str (s : Str) : RepF G Z H (.str s) (.str s)
  | tup {a : Addr} {xs : List D} {vs : List V} (h : (Z a ∧ Rd H a (.tup vs)) ∨ KwT G.K a vs) (hl : xs.length = vs.length) (he : ∀ (i : Nat) d v, xs[i]? = some d → vs[i]? = some v → RepF G Z H d v) : RepF G Z H (.tup xs) (.ref a)
  | lsk {a : Addr} {xs : List D} {vs : List V} (h : (Z a ∧ Rd H a (.lst vs)) ∨ KwL G.K a vs) (hl : xs.length = vs.length) (he : ∀ (i : Nat) d v, xs[i]? = some d → vs[i]? = some v → RepF G Z H d v) : RepF G Z H (.lst .k xs) (.ref a)
  | lst {a : Addr} {xs : List D} {vs : List V} (z : Z a) (h : H a = some (.lst vs)) (hl : xs.length = vs.length) (he : ∀ (i : Nat) d v, xs[i]? = some d → vs[i]? = some v → RepF G Z H d v) : RepF G Z H (.lst .f xs) (.ref a)
  | dic {a : Addr} {kvs : List (Key × D)} {ws : List (Key × V)} (z : Z a) (h : Rd H a (.dK ws)) (hl : kvs.map (·.1) = ws.map (·.1)) (he : ∀ (i : Nat) p q, kvs[i]? = some p → ws[i]? = some q → RepF G Z H p.2 q.2) : RepF G Z H (.dic .f kvs) (.ref a)
  | dit {a : Addr} {kvs : List (List Key × D)} {ws : List (List Key × V)} (z : Z a) (h : H a = some (.dT ws)) (hl : kvs.map (·.1) = ws.map (·.1)) (he : ∀ (i : Nat) p q, kvs[i]? = some p → ws[i]? = some q → RepF G Z H p.2 q.2) : RepF G Z H (.dit .f kvs) (.ref a)
  | ins {a dx : Addr} {c : Nat} {fs : List (Nat × D)} {gs : List (Str × V)} (z : Z a) (h : H a = some (.ins (G.cls c) dx gs)) (hl : fs.map (fun p => G.fld p.1) = gs.map (·.1)) (he : ∀ (i : Nat) p q, fs[i]? = some p → gs[i]? = some q → RepF G Z H p.2 q.2) : RepF G Z H (.ins .f c fs) (.ref a)

/-- data with the addresses A that its holder owns; S: what is lent -/
inductive Rep (G : GC) (Z S : AS) (H : Hp) : D → V → AS → Prop
  | fz {d : D} {v : V} {A : AS} (h : RepF G Z H d v) (hA : ∀ x, ¬ A x) : Rep G Z S H d v A
  | lo {a : Addr} {xs : List D} {vs : List V} {A : AS} (h : H a = some (.lst vs)) (hl : xs.length = vs.length) (he : ∀ (i : Nat) d v, xs[i]? = some d → vs[i]? = some v → RepF G Z H d v) (hA : ∀ x, A x ↔ x = a) : Rep G Z S H (.lst .o xs) (.ref a) A
  | loo {a : Addr} {xs : List D} {vs : List V} {A : AS} (B : Nat → AS) (h : H a = some (.lst vs)) (hl : xs.length = vs.length) (he : ∀ (i : Nat) d v, xs[i]? = some d → vs[i]? = some v → Rep G Z S H d v (B i))
      (hd : ∀ i j x, B i x → B j x → i = j) (hn : ∀ i, ¬ B i a) (ho : ∀ i x, B i x → i < xs.length) (hA : ∀ x, A x ↔ (x = a ∨ ∃ i, B i x)) : Rep G Z S H (.lst .oo xs) (.ref a) A
  | ll {a : Addr} {xs : List D} {vs : List V} {A : AS} (s : S a) (h : H a = some (.lst vs)) (hl : xs.length = vs.length) (he : ∀ (i : Nat) d v, xs[i]? = some d → vs[i]? = some v → RepF G Z H d v) (hA : ∀ x, ¬ A x) : Rep G Z S H (.lst .l xs) (.ref a) A
  | lll {a : Addr} {xs : List D} {vs : List V} {A : AS} (s : S a) (h : H a = some (.lst vs)) (hl : xs.length = vs.length) (he : ∀ (i : Nat) d v, xs[i]? = some d → vs[i]? = some v → Rep G Z S H d v S0) (hA : ∀ x, ¬ A x) : Rep G Z S H (.lst .ll xs) (.ref a) A
  | dco {a : Addr} {xs : List (Key × D)} {ws : List (Key × V)} {A : AS} (h : H a = some (.dK ws)) (hl : xs.map (·.1) = ws.map (·.1)) (he : ∀ (i : Nat) p q, xs[i]? = some p → ws[i]? = some q → RepF G Z H p.2 q.2) (hA : ∀ x, A x ↔ x = a) : Rep G Z S H (.dic .o xs) (.ref a) A
  | dcoo {a : Addr} {xs : List (Key × D)} {ws : List (Key × V)} {A : AS} (B : Nat → AS) (h : H a = some (.dK ws)) (hl : xs.map (·.1) = ws.map (·.1)) (he : ∀ (i : Nat) p q, xs[i]? = some p → ws[i]? = some q → Rep G Z S H p.2 q.2 (B i))
      (hd : ∀ i j x, B i x → B j x → i = j) (hn : ∀ i, ¬ B i a) (ho : ∀ i x, B i x → i < xs.length) (hA : ∀ x, A x ↔ (x = a ∨ ∃ i, B i x)) : Rep G Z S H (.dic .oo xs) (.ref a) A
  | dcl {a : Addr} {xs : List (Key × D)} {ws : List (Key × V)} {A : AS} (s : S a) (h : Rd H a (.dK ws)) (hl : xs.map (·.1) = ws.map (·.1)) (he : ∀ (i : Nat) p q, xs[i]? = some p → ws[i]? = some q → RepF G Z H p.2 q.2) (hA : ∀ x, ¬ A x) : Rep G Z S H (.dic .l xs) (.ref a) A
  | dcll {a : Addr} {xs : List (Key × D)} {ws : List (Key × V)} {A : AS} (s : S a) (h : Rd H a (.dK ws)) (hl : xs.map (·.1) = ws.map (·.1)) (he : ∀ (i : Nat) p q, xs[i]? = some p → ws[i]? = some q → Rep G Z S H p.2 q.2 S0) (hA : ∀ x, ¬ A x) : Rep G Z S H (.dic .ll xs) (.ref a) A
  | dto {a : Addr} {xs : List (List Key × D)} {ws : List (List Key × V)} {A : AS} (h : H a = some (.dT ws)) (hl : xs.map (·.1) = ws.map (·.1)) (he : ∀ (i : Nat) p q, xs[i]? = some p → ws[i]? = some q → RepF G Z H p.2 q.2) (hA : ∀ x, A x ↔ x = a) : Rep G Z S H (.dit .o xs) (.ref a) A
  | dtl {a : Addr} {xs : List (List Key × D)} {ws : List (List Key × V)} {A : AS} (s : S a) (h : H a = some (.dT ws)) (hl : xs.map (·.1) = ws.map (·.1)) (he : ∀ (i : Nat) p q, xs[i]? = some p → ws[i]? = some q → RepF G Z H p.2 q.2) (hA : ∀ x, ¬ A x) : Rep G Z S H (.dit .l xs) (.ref a) A
  | ioo {a dx : Addr} {c : Nat} {xs : List (Nat × D)} {ws : List (Str × V)} {A : AS} (B : Nat → AS) (h : H a = some (.ins (G.cls c) dx ws)) (hl : xs.map (fun p => G.fld p.1) = ws.map (·.1)) (he : ∀ (i : Nat) p q, xs[i]? = some p → ws[i]? = some q → Rep G Z S H p.2 q.2 (B i))
      (hd : ∀ i j x, B i x → B j x → i = j) (hn : ∀ i, ¬ B i a) (ho : ∀ i x, B i x → i < xs.length) (hA : ∀ x, A x ↔ (x = a ∨ ∃ i, B i x)) : Rep G Z S H (.ins .oo c xs) (.ref a) A
  | ill {a dx : Addr} {c : Nat} {xs : List (Nat × D)} {ws : List (Str × V)} {A : AS} (s : S a) (h : H a = some (.ins (G.cls c) dx ws)) (hl : xs.map (fun p => G.fld p.1) = ws.map (·.1)) (he : ∀ (i : Nat) p q, xs[i]? = some p → ws[i]? = some q → Rep G Z S H p.2 q.2 S0) (hA : ∀ x, ¬ A x) : Rep G Z S H (.ins .ll c xs) (.ref a) A

section
variable {G : GC} {Z Z' S S' : AS} {H H' : Hp}
theorem Rd.keep {a : Addr} {u : HO} (k : ∀ o, H a = some o → H' a = some o) (r : Rd H a u) : Rd H' a u := by
  rcases r with r | ⟨o, r⟩
  · exact .inl (k _ r)
  · exact .inr ⟨o, k _ r⟩
theorem RepF.mono (hz : ∀ a, Z a → Z' a) (k : ∀ a, Z a → ∀ o, H a = some o → H' a = some o) {d : D} {v : V} (r : RepF G Z H d v) : RepF G Z' H' d v := by
  induction r with
  | non => exact .non
  | bl b => exact .bl b
  | int i => exact .int i
  | str s => exact .str s
  | tup h hl he ih => exact .tup (h.imp (fun ⟨z, q⟩ => ⟨hz _ z, Rd.keep (k _ z) q⟩) id) hl ih
  | lsk h hl he ih => exact .lsk (h.imp (fun ⟨z, q⟩ => ⟨hz _ z, Rd.keep (k _ z) q⟩) id) hl ih
  | lst z h hl he ih => exact .lst (hz _ z) (k _ z _ h) hl ih
  | dic z h hl he ih => exact .dic (hz _ z) (Rd.keep (k _ z) h) hl ih
  | dit z h hl he ih => exact .dit (hz _ z) (k _ z _ h) hl ih
  | ins z h hl he ih => exact .ins (hz _ z) (k _ z _ h) hl ih
theorem Rep.mono {d : D} {v : V} {A : AS} (r : Rep G Z S H d v A) : ∀ (hz : ∀ a, Z a → Z' a) (hs : ∀ a, S a → S' a) (k : ∀ a, (Z a ∨ S a ∨ A a) → ∀ o, H a = some o → H' a = some o), Rep G Z' S' H' d v A := by
  induction r with
  | fz h hA => exact fun hz hs k => .fz (h.mono hz fun a z => k a (.inl z)) hA
  | lo h hl he hA => exact fun hz hs k => .lo (k _ (.inr (.inr ((hA _).mpr rfl))) _ h) hl (fun i d v e1 e2 => (he i d v e1 e2).mono hz fun a z => k a (.inl z)) hA
  | loo B h hl he hd hn ho hA ih => exact fun hz hs k => .loo B (k _ (.inr (.inr ((hA _).mpr (.inl rfl)))) _ h) hl (fun i d v e1 e2 => ih i d v e1 e2 hz hs fun a z => k a (z.imp id (·.imp id fun q => (hA _).mpr (.inr ⟨i, q⟩)))) hd hn ho hA
  | ll s h hl he hA => exact fun hz hs k => .ll (hs _ s) (k _ (.inr (.inl s)) _ h) hl (fun i d v e1 e2 => (he i d v e1 e2).mono hz fun a z => k a (.inl z)) hA
  | lll s h hl he hA ih => exact fun hz hs k => .lll (hs _ s) (k _ (.inr (.inl s)) _ h) hl (fun i d v e1 e2 => ih i d v e1 e2 hz hs fun a z => k a (z.imp id (·.imp id fun q => q.elim))) hA
  | dco h hl he hA => exact fun hz hs k => .dco (k _ (.inr (.inr ((hA _).mpr rfl))) _ h) hl (fun i d v e1 e2 => (he i d v e1 e2).mono hz fun a z => k a (.inl z)) hA
  | dcoo B h hl he hd hn ho hA ih => exact fun hz hs k => .dcoo B (k _ (.inr (.inr ((hA _).mpr (.inl rfl)))) _ h) hl (fun i d v e1 e2 => ih i d v e1 e2 hz hs fun a z => k a (z.imp id (·.imp id fun q => (hA _).mpr (.inr ⟨i, q⟩)))) hd hn ho hA
  | dcl s h hl he hA => exact fun hz hs k => .dcl (hs _ s) (Rd.keep (k _ (.inr (.inl s))) h) hl (fun i d v e1 e2 => (he i d v e1 e2).mono hz fun a z => k a (.inl z)) hA
  | dcll s h hl he hA ih => exact fun hz hs k => .dcll (hs _ s) (Rd.keep (k _ (.inr (.inl s))) h) hl (fun i d v e1 e2 => ih i d v e1 e2 hz hs fun a z => k a (z.imp id (·.imp id fun q => q.elim))) hA
  | dto h hl he hA => exact fun hz hs k => .dto (k _ (.inr (.inr ((hA _).mpr rfl))) _ h) hl (fun i d v e1 e2 => (he i d v e1 e2).mono hz fun a z => k a (.inl z)) hA
  | dtl s h hl he hA => exact fun hz hs k => .dtl (hs _ s) (k _ (.inr (.inl s)) _ h) hl (fun i d v e1 e2 => (he i d v e1 e2).mono hz fun a z => k a (.inl z)) hA
  | ioo B h hl he hd hn ho hA ih => exact fun hz hs k => .ioo B (k _ (.inr (.inr ((hA _).mpr (.inl rfl)))) _ h) hl (fun i d v e1 e2 => ih i d v e1 e2 hz hs fun a z => k a (z.imp id (·.imp id fun q => (hA _).mpr (.inr ⟨i, q⟩)))) hd hn ho hA
  | ill s h hl he hA ih => exact fun hz hs k => .ill (hs _ s) (k _ (.inr (.inl s)) _ h) hl (fun i d v e1 e2 => ih i d v e1 e2 hz hs fun a z => k a (z.imp id (·.imp id fun q => q.elim))) hA
theorem Rep.own {d : D} {v : V} {A : AS} (r : Rep G Z S H d v A) : ∀ x, A x → ∃ o, H x = some o := by
  have two : ∀ {α β γ : Type} {f : α → γ} {g : β → γ} {xs : List α} {ys : List β} {i : Nat}, xs.map f = ys.map g → i < xs.length → ∃ p q, xs[i]? = some p ∧ ys[i]? = some q := fun {α β γ f g xs ys i} e h => by
    have l : xs.length = ys.length := by simpa using congrArg List.length e
    have h2 : i < ys.length := l ▸ h
    exact ⟨xs[i], ys[i], by simp [h], by simp [h2]⟩
  induction r with
  | fz h hA => exact fun x z => (hA x z).elim
  | lo h hl he hA => exact fun x z => by rw [(hA x).mp z]; exact ⟨_, h⟩
  | @loo a xs vs A B h hl he hd hn ho hA ih =>
    intro x z
    rcases (hA x).mp z with z | ⟨i, z⟩
    · rw [z]; exact ⟨_, h⟩
    · have l1 := ho i x z
      have l2 : i < vs.length := hl ▸ l1
      exact ih i xs[i] vs[i] (by simp [l1]) (by simp [l2]) x z
  | ll s h hl he hA => exact fun x z => (hA x z).elim
  | lll s h hl he hA ih => exact fun x z => (hA x z).elim
  | dco h hl he hA => exact fun x z => by rw [(hA x).mp z]; exact ⟨_, h⟩
  | dcoo B h hl he hd hn ho hA ih =>
    intro x z
    rcases (hA x).mp z with z | ⟨i, z⟩
    · rw [z]; exact ⟨_, h⟩
    · obtain ⟨p, q, e1, e2⟩ := two hl (ho i x z)
      exact ih i p q e1 e2 x z
  | dcl s h hl he hA => exact fun x z => (hA x z).elim
  | dcll s h hl he hA ih => exact fun x z => (hA x z).elim
  | dto h hl he hA => exact fun x z => by rw [(hA x).mp z]; exact ⟨_, h⟩
  | dtl s h hl he hA => exact fun x z => (hA x z).elim
  | ioo B h hl he hd hn ho hA ih =>
    intro x z
    rcases (hA x).mp z with z | ⟨i, z⟩
    · rw [z]; exact ⟨_, h⟩
    · obtain ⟨p, q, e1, e2⟩ := two hl (ho i x z)
      exact ih i p q e1 e2 x z
  | ill s h hl he hA ih => exact fun x z => (hA x z).elim
/-- the same addresses, told otherwise -/
theorem Rep.congr {d : D} {v : V} {A A' : AS} (r : Rep G Z S H d v A) (h : ∀ x, A' x ↔ A x) : Rep G Z S H d v A' := by
  have e : A' = A := funext fun x => propext (h x)
  rw [e]; exact r
theorem Rep.frozen {d : D} {v : V} {A : AS} (r : Rep G Z S H d v A) (h : isF d = true) : RepF G Z H d v ∧ ∀ x, ¬ A x := by
  cases r <;> first | exact ⟨by assumption, by assumption⟩ | (exact absurd (show false = true from h) Bool.false_ne_true)
theorem getMap {α β : Type} {f : α → β} {xs : List α} {i : Nat} {y : β} (h : (xs.map f)[i]? = some y) : ∃ x, xs[i]? = some x ∧ f x = y := by
  rw [List.getElem?_map] at h
  cases e : xs[i]? with
  | none => rw [e] at h; cases h
  | some x => rw [e] at h; exact ⟨x, rfl, Option.some.inj h⟩
/-- freezing: what is owned goes to Z -/
theorem Rep.freeze {d : D} {v : V} {A : AS} (r : Rep G Z S0 H d v A) : RepF G (fun x => Z x ∨ A x) H (frz d) v := by
  generalize hS : S0 = S' at r
  have mz : ∀ {A : AS} {d v}, RepF G Z H d v → RepF G (fun x => Z x ∨ A x) H d v := fun q => q.mono (fun _ z => .inl z) fun _ _ _ e => e
  have nf : ∀ {d v}, RepF G Z H d v → frz d = d := fun q => by cases q <;> rfl
  induction r with
  | fz h hA => rw [nf h]; exact mz h
  | lo h hl he hA => exact .lst (.inr ((hA _).mpr rfl)) h hl fun i d v e1 e2 => mz (he i d v e1 e2)
  | @loo a xs vs A B h hl he hd hn ho hA ih =>
    show RepF _ _ _ (.lst .f (frzL xs)) _
    rw [frzL_eq]
    refine .lst (.inr ((hA _).mpr (.inl rfl))) h (by simpa using hl) fun i d v e1 e2 => ?_
    obtain ⟨x, ex, rfl⟩ := getMap e1
    exact (ih i x v ex e2).mono (fun y z => z.imp id fun q => (hA _).mpr (.inr ⟨i, q⟩)) fun _ _ _ e => e
  | ll s h hl he hA => rw [← hS] at s; exact s.elim
  | lll s h hl he hA ih => rw [← hS] at s; exact s.elim
  | dco h hl he hA => exact .dic (.inr ((hA _).mpr rfl)) (.inl h) hl fun i d v e1 e2 => mz (he i d v e1 e2)
  | @dcoo a xs ws A B h hl he hd hn ho hA ih =>
    show RepF _ _ _ (.dic .f (frzK xs)) _
    rw [frzK_eq]
    refine .dic (.inr ((hA _).mpr (.inl rfl))) (.inl h) (by rw [← hl, List.map_map]; rfl) fun i d v e1 e2 => ?_
    obtain ⟨x, ex, rfl⟩ := getMap e1
    exact (ih i x v ex e2).mono (fun y z => z.imp id fun q => (hA _).mpr (.inr ⟨i, q⟩)) fun _ _ _ e => e
  | dcl s h hl he hA => rw [← hS] at s; exact s.elim
  | dcll s h hl he hA ih => rw [← hS] at s; exact s.elim
  | dto h hl he hA => exact .dit (.inr ((hA _).mpr rfl)) h hl fun i d v e1 e2 => mz (he i d v e1 e2)
  | dtl s h hl he hA => rw [← hS] at s; exact s.elim
  | @ioo a dx c xs ws A B h hl he hd hn ho hA ih =>
    show RepF _ _ _ (.ins .f c (frzN xs)) _
    rw [frzN_eq]
    refine .ins (.inr ((hA _).mpr (.inl rfl))) h (by rw [← hl, List.map_map]; rfl) fun i d v e1 e2 => ?_
    obtain ⟨x, ex, rfl⟩ := getMap e1
    exact (ih i x v ex e2).mono (fun y z => z.imp id fun q => (hA _).mpr (.inr ⟨i, q⟩)) fun _ _ _ e => e
  | ill s h hl he hA ih => rw [← hS] at s; exact s.elim
/-- lending: what is owned is lent -/
theorem Rep.lent {d : D} {v : V} {A : AS} (r : Rep G Z S H d v A) : Rep G Z (fun x => S x ∨ A x) H (lend d) v S0 := by
  have nf : ∀ {d v}, RepF G Z H d v → lend d = d := fun q => by cases q <;> rfl
  have up : ∀ {A B : AS} {d v}, (∀ x, B x → A x) → Rep G Z (fun x => S x ∨ B x) H d v S0 → Rep G Z (fun x => S x ∨ A x) H d v S0 := fun h q => q.mono (fun _ z => z) (fun _ z => z.imp id (h _)) fun _ _ _ e => e
  have n0 : ∀ x, ¬ S0 x := fun x h => h
  induction r with
  | fz h hA => rw [nf h]; exact .fz h n0
  | lo h hl he hA => exact .ll (.inr ((hA _).mpr rfl)) h hl he n0
  | @loo a xs vs A B h hl he hd hn ho hA ih =>
    show Rep _ _ _ _ (.lst .ll (lendL xs)) _ _
    rw [lendL_eq]
    refine .lll (.inr ((hA _).mpr (.inl rfl))) h (by simpa using hl) (fun i d v e1 e2 => ?_) n0
    obtain ⟨x, ex, rfl⟩ := getMap e1
    exact up (fun y q => (hA _).mpr (.inr ⟨i, q⟩)) (ih i x v ex e2)
  | ll s h hl he hA => exact .ll (.inl s) h hl he n0
  | lll s h hl he hA ih => exact .lll (.inl s) h hl (fun i d v e1 e2 => (he i d v e1 e2).mono (fun _ z => z) (fun _ z => .inl z) fun _ _ _ e => e) n0
  | dco h hl he hA => exact .dcl (.inr ((hA _).mpr rfl)) (.inl h) hl he n0
  | @dcoo a xs ws A B h hl he hd hn ho hA ih =>
    show Rep _ _ _ _ (.dic .ll (lendK xs)) _ _
    rw [lendK_eq]
    refine .dcll (.inr ((hA _).mpr (.inl rfl))) (.inl h) (by rw [← hl, List.map_map]; rfl) (fun i d v e1 e2 => ?_) n0
    obtain ⟨x, ex, rfl⟩ := getMap e1
    exact up (fun y q => (hA _).mpr (.inr ⟨i, q⟩)) (ih i x v ex e2)
  | dcl s h hl he hA => exact .dcl (.inl s) h hl he n0
  | dcll s h hl he hA ih => exact .dcll (.inl s) h hl (fun i d v e1 e2 => (he i d v e1 e2).mono (fun _ z => z) (fun _ z => .inl z) fun _ _ _ e => e) n0
  | dto h hl he hA => exact .dtl (.inr ((hA _).mpr rfl)) h hl he n0
  | dtl s h hl he hA => exact .dtl (.inl s) h hl he n0
  | @ioo a dx c xs ws A B h hl he hd hn ho hA ih =>
    show Rep _ _ _ _ (.ins .ll c (lendN xs)) _ _
    rw [lendN_eq]
    refine .ill (.inr ((hA _).mpr (.inl rfl))) h (by rw [← hl, List.map_map]; rfl) (fun i d v e1 e2 => ?_) n0
    obtain ⟨x, ex, rfl⟩ := getMap e1
    exact up (fun y q => (hA _).mpr (.inr ⟨i, q⟩)) (ih i x v ex e2)
  | ill s h hl he hA ih => exact .ill (.inl s) h hl (fun i d v e1 e2 => (he i d v e1 e2).mono (fun _ z => z) (fun _ z => .inl z) fun _ _ _ e => e) n0
end
end PD
/-! P, part 1: states, steps, readings of expressions and of arguments. -/
namespace PD
open PySem L2

abbrev DS := List (Option D)
structure Xc where
  c : Nat
  fs : List (Nat × D)
inductive RR (α : Type) where
  | ok (a : α)
  | ex (x : Xc)
abbrev ER := RR D × DS
abbrev EA := RR (List D) × DS

def Own (FS : Nat → AS) : AS := fun x => ∃ i, FS i x

structure Step (H : Hp) (Z P : AS) (H' : Hp) (Z' P' : AS) : Prop where
  keep : ∀ a o, H a = some o → ¬ P a → H' a = some o
  there : ∀ a o, H a = some o → ∃ o', H' a = some o'
  zin : ∀ a, Z a → Z' a
  znew : ∀ a, Z' a → Z a ∨ P a ∨ H a = none
  pnew : ∀ a, P' a → P a ∨ H a = none
theorem Step.refl (H : Hp) (Z P : AS) : Step H Z P H Z P := ⟨fun _ _ e _ => e, fun _ o e => ⟨o, e⟩, fun _ z => z, fun _ z => .inl z, fun _ z => .inl z⟩
theorem Step.trans {H H1 H2 : Hp} {Z Z1 Z2 P P1 P2 : AS} (a : Step H Z P H1 Z1 P1) (b : Step H1 Z1 P1 H2 Z2 P2) : Step H Z P H2 Z2 P2 where
  keep := fun x o e n => b.keep x o (a.keep x o e n) fun z => (a.pnew x z).elim n fun q => by rw [q] at e; cases e
  there := fun x o e => let ⟨o1, e1⟩ := a.there x o e; b.there x o1 e1
  zin := fun x z => b.zin x (a.zin x z)
  znew := fun x z => by
    have back : H1 x = none → H x = none := fun q => by
      cases e : H x with
      | none => rfl
      | some o => obtain ⟨o', e'⟩ := a.there x o e; rw [e'] at q; cases q
    rcases b.znew x z with z | z | z
    · exact a.znew x z
    · exact (a.pnew x z).elim (fun q => .inr (.inl q)) fun q => .inr (.inr q)
    · exact .inr (.inr (back z))
  pnew := fun x z => by
    rcases b.pnew x z with z | z
    · exact a.pnew x z
    · refine .inr ?_
      cases e : H x with
      | none => rfl
      | some o => obtain ⟨o', e'⟩ := a.there x o e; rw [e'] at z; cases z
theorem Step.same {H H' : Hp} {Z P P' : AS} (s : Same H H') (h : ∀ a, P' a → P a ∨ H a = none) : Step H Z P H' Z P' := ⟨fun a o e _ => s a o e, fun a o e => ⟨o, s a o e⟩, fun _ z => z, fun _ z => .inl z, h⟩
theorem Step.sub {H H' : Hp} {Z Z' P P' P2 : AS} (s : Step H Z P H' Z' P') (h : ∀ a, P2 a → P' a) : Step H Z P H' Z' P2 := { s with pnew := fun a z => s.pnew a (h a z) }
/-- more is held ahead -/
theorem Step.up {H H' : Hp} {Z Z' P P' P1 : AS} (s : Step H Z P H' Z' P') (h : ∀ a, P a → P1 a) : Step H Z P1 H' Z' P' :=
  { keep := fun a o e n => s.keep a o e fun z => n (h a z), there := s.there, zin := s.zin, znew := fun a z => (s.znew a z).imp id (·.imp (h a) id), pnew := fun a z => (s.pnew a z).imp (h a) id }

/-- the slots' data: FS i is what slot i owns, S i what is lent to it -/
structure SR (G : GC) (Z : AS) (S : Nat → AS) (H : Hp) (δ : DS) (σ : St) (FS : Nat → AS) : Prop where
  len : δ.length = σ.length
  slot : ∀ (i : Nat) d, δ[i]? = some (some d) → ∃ v, σ[i]? = some (some v) ∧ Rep G Z (S i) H d v (FS i)
  empt : ∀ (i : Nat), (∀ d, δ[i]? ≠ some (some d)) → ∀ x, ¬ FS i x
  disj : ∀ i j x, FS i x → FS j x → i = j
  zs : ∀ a, Z a → ∃ o, H a = some o
  ss : ∀ a, Own S a → ∃ o, H a = some o
  nz : ∀ a, Own FS a → ¬ Z a ∧ ¬ Own S a
section
variable {G : GC} {Z Z' : AS} {H H' : Hp} {δ δ' : DS} {σ : St} {FS FS' : Nat → AS} {d : D} {v : V} {A P P' : AS}
theorem SR.own {S : Nat → AS} (r : SR G Z S H δ σ FS) : ∀ x, Own FS x → ∃ o, H x = some o := fun x ⟨i, h⟩ => by
  cases e : δ[i]? with
  | none => exact (r.empt i (fun d q => by rw [e] at q; cases q) x h).elim
  | some q =>
    cases q with
    | none => exact (r.empt i (fun d q => by rw [e] at q; cases q) x h).elim
    | some d =>
      obtain ⟨v, _, rp⟩ := r.slot i d e
      exact rp.own x h
/-- a value that lies outside of what is held stays through a step -/
theorem Rep.step {S : AS} (r : Rep G Z S H d v A) (s : Step H Z P H' Z' P') (hz : ∀ a, P a → ¬ Z a ∧ ¬ S a) (hA : ∀ a, A a → ¬ P a) : Rep G Z' S H' d v A :=
  r.mono s.zin (fun _ z => z) fun a z o e => s.keep a o e fun p => by
    rcases z with z | z | z
    · exact (hz a p).1 z
    · exact (hz a p).2 z
    · exact hA a z p
theorem RepF.step (r : RepF G Z H d v) (s : Step H Z P H' Z' P') (hz : ∀ a, P a → ¬ Z a) : RepF G Z' H' d v :=
  r.mono s.zin fun a z o e => s.keep a o e fun p => hz a p z
theorem Rep.same {S : AS} (r : Rep G Z S H d v A) (s : Same H H') : Rep G Z S H' d v A := r.mono (fun _ z => z) (fun _ z => z) fun a _ o e => s a o e
theorem RepF.same (r : RepF G Z H d v) (s : Same H H') : RepF G Z H' d v := r.mono (fun _ z => z) fun a _ o e => s a o e
theorem SR.same {S : Nat → AS} (r : SR G Z S H δ σ FS) (s : Same H H') : SR G Z S H' δ σ FS :=
  ⟨r.len, fun i d e => let ⟨v, e1, rp⟩ := r.slot i d e; ⟨v, e1, rp.same s⟩, r.empt, r.disj, fun a z => let ⟨o, e⟩ := r.zs a z; ⟨o, s a o e⟩, fun a z => let ⟨o, e⟩ := r.ss a z; ⟨o, s a o e⟩, r.nz⟩
theorem Rep.any {S : Nat → AS} {i : Nat} (r : Rep G Z (S i) H d v A) : Rep G Z (Own S) H d v A := r.mono (fun _ z => z) (fun _ z => ⟨i, z⟩) fun _ _ _ e => e
theorem Rep.s0 {S : AS} (r : Rep G Z S0 H d v A) : Rep G Z S H d v A := r.mono (fun _ z => z) (fun _ z => z.elim) fun _ _ _ e => e
end

/-- an exception told -/
def XR (G : GC) (Z : AS) (H : Hp) (x : Xc) (cls : Value) (dd : Option Addr) : Prop :=
  cls = .ref (G.cls x.c) ∧ ((x.fs = [] ∧ dd = none) ∨ x.fs ≠ [] ∧ ∃ a gs, dd = some a ∧ Z a ∧ H a = some (.xd gs) ∧ x.fs.map (fun p => G.fld p.1) = gs.map (·.1) ∧ ∀ (i : Nat) p q, x.fs[i]? = some p → gs[i]? = some q → RepF G Z H p.2 q.2)

/-- behind an expression -/
structure PostE (G : GC) (S : Nat → AS) (vw qt : Bool) (σ : St) (H : Hp) (Z : AS) (FS : Nat → AS) (d : D) (δ' : DS) (v : V) (H' : Hp) (Z' : AS) (FS' : Nat → AS) (A : AS) : Prop where
  sr : SR G Z' S H' δ' σ FS'
  st : Step H Z (Own FS) H' Z' (fun x => Own FS' x ∨ A x)
  vl : if vw = true then Rep G Z' (Own S) H' d v A ∧ (∀ x, A x → Own FS' x) else Rep G Z' S0 H' d v A ∧ ∀ x, A x → ¬ Z' x ∧ ¬ Own S x ∧ ¬ Own FS' x
  qq : qt = true → FS' = FS ∧ Same H H'
/-- behind an exception -/
structure PostX (G : GC) (S : Nat → AS) (σ : St) (H : Hp) (Z : AS) (FS : Nat → AS) (x : Xc) (δ' : DS) (c : Value) (dd : Option Addr) (H' : Hp) (Z' : AS) (FS' : Nat → AS) : Prop where
  sr : SR G Z' S H' δ' σ FS'
  st : Step H Z (Own FS) H' Z' (Own FS')
  xr : XR G Z' H' x c dd

def rdE (G : GC) (W : WX) (vw qt : Bool) (f : DS → Option ER) : TE := fun σ H Q => ∃ δ Z S FS, SR G Z S H δ σ FS ∧ (∃ r, f δ = some r) ∧
  (∀ d δ', f δ = some (.ok d, δ') → ∀ v H' Z' FS' A, PostE G S vw qt σ H Z FS d δ' v H' Z' FS' A → Q v H') ∧
  (∀ x δ', f δ = some (.ex x, δ') → ∀ c dd H' Z' FS', PostX G S σ H Z FS x δ' c dd H' Z' FS' → W c dd σ H')

/-- the arguments' values: ks tells which are views; the others are held by the list itself -/
structure ArgR (G : GC) (Z S : AS) (H : Hp) (FS : Nat → AS) (ks : List Bool) (ds : List D) (vs : List V) (B : Nat → AS) : Prop where
  l1 : ds.length = vs.length
  l2 : ks.length = ds.length
  rep : ∀ (j : Nat) d v k, ds[j]? = some d → vs[j]? = some v → ks[j]? = some k → if k = true then Rep G Z S H d v (B j) ∧ (∀ x, B j x → Own FS x) else Rep G Z S0 H d v (B j) ∧ ∀ x, B j x → ¬ Z x ∧ ¬ S x ∧ ¬ Own FS x
  disj : ∀ i j x, ks[i]? = some false → ks[j]? = some false → B i x → B j x → i = j
/-- what the list holds -/
def Tm (ks : List Bool) (B : Nat → AS) : AS := fun x => ∃ j, ks[j]? = some false ∧ B j x
structure PostA (G : GC) (S : Nat → AS) (ks : List Bool) (qt : Bool) (σ : St) (H : Hp) (Z : AS) (FS : Nat → AS) (ds : List D) (δ' : DS) (vs : List V) (H' : Hp) (Z' : AS) (FS' : Nat → AS) (B : Nat → AS) : Prop where
  sr : SR G Z' S H' δ' σ FS'
  st : Step H Z (Own FS) H' Z' (fun x => Own FS' x ∨ Tm ks B x)
  ar : ArgR G Z' (Own S) H' FS' ks ds vs B
  qq : qt = true → FS' = FS ∧ Same H H'
def rdA (G : GC) (W : WX) (ks : List Bool) (qt : Bool) (f : DS → Option EA) : TA := fun σ H Q => ∃ δ Z S FS, SR G Z S H δ σ FS ∧ (∃ r, f δ = some r) ∧
  (∀ ds δ', f δ = some (.ok ds, δ') → ∀ vs H' Z' FS' B, PostA G S ks qt σ H Z FS ds δ' vs H' Z' FS' B → Q vs H') ∧
  (∀ x δ', f δ = some (.ex x, δ') → ∀ c dd H' Z' FS', PostX G S σ H Z FS x δ' c dd H' Z' FS' → W c dd σ H')

/-- the arguments that are names -/
def VR (vr : List (Option Nat)) (σ : St) (vs : List V) : Prop := ∀ (j i : Nat), vr[j]? = some (some i) → ∃ v, vs[j]? = some v ∧ σ[i]? = some (some v)
def rdAV (G : GC) (W : WX) (ks : List Bool) (vr : List (Option Nat)) (qt : Bool) (f : DS → Option EA) : TA := fun σ H Q => ∃ δ Z S FS, SR G Z S H δ σ FS ∧ (∃ r, f δ = some r) ∧
  (∀ ds δ', f δ = some (.ok ds, δ') → ∀ vs H' Z' FS' B, PostA G S ks qt σ H Z FS ds δ' vs H' Z' FS' B → VR vr σ vs → Q vs H') ∧
  (∀ x δ', f δ = some (.ex x, δ') → ∀ c dd H' Z' FS', PostX G S σ H Z FS x δ' c dd H' Z' FS' → W c dd σ H')

/-! ### the evaluator's pieces -/
def evVar (i : Nat) : DS → Option ER := fun δ => match δ[i]? with
  | some (some d) => some (.ok d, δ)
  | _ => none
def evCst (d : D) : DS → Option ER := fun δ => some (.ok d, δ)
def evNil : DS → Option EA := fun δ => some (.ok [], δ)
/-- vw: the first is a view; qr: the rest changes nothing -/
def evCons (vw qr : Bool) (fa : DS → Option ER) (fr : DS → Option EA) : DS → Option EA := fun δ => match fa δ with
  | none => none
  | some (.ex x, δ1) => some (.ex x, δ1)
  | some (.ok d, δ1) => if vw && !qr && !isF d then none else match fr δ1 with
    | none => none
    | some (.ex x, δ2) => some (.ex x, δ2)
    | some (.ok ds, δ2) => some (.ok (d :: ds), δ2)
/-- a name: what it holds behind the rest -/
def evDefer (i : Nat) (fr : DS → Option EA) : DS → Option EA := fun δ => match δ[i]? with
  | some (some _) => match fr δ with
    | none => none
    | some (.ex x, δ2) => some (.ex x, δ2)
    | some (.ok ds, δ2) => match δ2[i]? with
      | some (some d) => some (.ok (d :: ds), δ2)
      | _ => none
  | _ => none

section
variable {G : GC} {W : WX} {X : Cx}
theorem PE.mono {e : Expr} {t t' : TE} (h : PE X e t) (m : ∀ σ H Q, t' σ H Q → t σ H Q) : PE X e t' := ⟨fun pins s σ H Q I q => h.run pins s σ H Q I (m σ H Q q)⟩
theorem PT.mono {e : Expr} {t t' : TT} (h : PT X e t) (m : ∀ σ H Q, t' σ H Q → t σ H Q) : PT X e t' := ⟨fun pins s σ H Q I q => h.run pins s σ H Q I (m σ H Q q)⟩
theorem PA.mono {e : List Expr} {t t' : TA} (h : PA X e t) (m : ∀ σ H Q, t' σ H Q → t σ H Q) : PA X e t' := ⟨fun pos pins s σ H Q I q => h.run pos pins s σ H Q I (m σ H Q q)⟩
theorem PS.mono {e : Stmt} {t t' : TS} (h : PS X e t) (m : ∀ D σ H, t' D σ H → t D σ H) : PS X e t' := ⟨fun pins s σ H D I q => h.run pins s σ H D I (m D σ H q)⟩
theorem PSs.mono {e : List Stmt} {t t' : TS} (h : PSs X e t) (m : ∀ D σ H, t' D σ H → t D σ H) : PSs X e t' := ⟨fun pins s σ H D I q => h.run pins s σ H D I (m D σ H q)⟩

theorem Step.quiet {H : Hp} {Z : AS} {FS : Nat → AS} {A : AS} (h : ∀ x, A x → Own FS x) : Step H Z (Own FS) H Z (fun x => Own FS x ∨ A x) := (Step.refl H Z (Own FS)).sub fun a z => z.elim id (h a)
theorem not_none {α : Type} {a : α} {p : Prop} (h : (none : Option α) = some a) : p := by cases h

theorem ok_inj {α : Type} {a b : α} {δ δ' : DS} (h : (some (RR.ok a, δ) : Option (RR α × DS)) = some (.ok b, δ')) : a = b ∧ δ = δ' := by cases h; exact ⟨rfl, rfl⟩
theorem ok_ex {α : Type} {a : α} {x : Xc} {δ δ' : DS} {p : Prop} (h : (some (RR.ok a, δ) : Option (RR α × DS)) = some (.ex x, δ')) : p := by cases h

theorem rd_var {i : Nat} : ∀ σ H Q, rdE G W true true (evVar i) σ H Q → tVar i σ H Q := by
  rintro σ H Q ⟨δ, Z, S, FS, sr, ⟨r, hr⟩, ok, -⟩
  unfold evVar at hr
  split at hr
  · rename_i d e
    obtain ⟨v, ev, rp⟩ := sr.slot i d e
    refine ⟨v, ev, ok d δ (by unfold evVar; rw [e]) v H Z FS (FS i) ⟨sr, Step.quiet fun x h => ⟨i, h⟩, ?_, fun _ => ⟨rfl, fun _ _ e => e⟩⟩⟩
    rw [if_pos rfl]; exact ⟨rp.any, fun x h => ⟨i, h⟩⟩
  · cases hr
/-- a scalar written -/
theorem rd_cst {d : D} {v : V} (h : ∀ Z H, RepF G Z H d v) : ∀ σ H Q, rdE G W false true (evCst d) σ H Q → tC v σ H Q := by
  rintro σ H Q ⟨δ, Z, S, FS, sr, -, ok, -⟩
  refine ok d δ rfl v H Z FS S0 ⟨sr, Step.quiet fun x h => h.elim, ?_, fun _ => ⟨rfl, fun _ _ e => e⟩⟩
  rw [if_neg Bool.false_ne_true]; exact ⟨.fz (h Z H) fun x h => h, fun x h => h.elim⟩
theorem rdAV.to {ks : List Bool} {vr : List (Option Nat)} {qt : Bool} {f : DS → Option EA} {σ : St} {H : Hp} {Q : List V → Hp → Prop} (h : rdA G W ks qt f σ H Q) : rdAV G W ks vr qt f σ H Q := by
  obtain ⟨δ, Z, S, FS, sr, h1, ok, ex⟩ := h
  exact ⟨δ, Z, S, FS, sr, h1, fun ds δ' e vs H' Z' FS' B p _ => ok ds δ' e vs H' Z' FS' B p, ex⟩
theorem VR.nil {σ : St} {vs : List V} : VR [] σ vs := fun j i h => by simp at h
theorem rdAV.of {ks : List Bool} {qt : Bool} {f : DS → Option EA} {σ : St} {H : Hp} {Q : List V → Hp → Prop} (h : rdAV G W ks [] qt f σ H Q) : rdA G W ks qt f σ H Q := by
  obtain ⟨δ, Z, S, FS, sr, h1, ok, ex⟩ := h
  exact ⟨δ, Z, S, FS, sr, h1, fun ds δ' e vs H' Z' FS' B p => ok ds δ' e vs H' Z' FS' B p VR.nil, ex⟩
theorem rd_nilV : ∀ σ H Q, rdAV G W [] [] true evNil σ H Q → tNil σ H Q := by
  rintro σ H Q ⟨δ, Z, S, FS, sr, -, ok, -⟩
  exact ok [] δ rfl [] H Z FS (fun _ => S0) ⟨sr, Step.quiet fun x ⟨j, h, _⟩ => by simp at h, ⟨rfl, rfl, fun j d v k e => by simp at e, fun i j x h => by simp at h⟩, fun _ => ⟨rfl, fun _ _ e => e⟩⟩ VR.nil
theorem rd_nil : ∀ σ H Q, rdA G W [] true evNil σ H Q → tNil σ H Q := fun σ H Q h => rd_nilV σ H Q (rdAV.to h)
theorem rd_deferV {i : Nat} {ks : List Bool} {vr : List (Option Nat)} {qr : Bool} {fr : DS → Option EA} {tr : TA} (hr : ∀ σ H Q, rdAV G W ks vr qr fr σ H Q → tr σ H Q) :
    ∀ σ H Q, rdAV G W (true :: ks) (some i :: vr) qr (evDefer i fr) σ H Q → tCons (tVar i) tr σ H Q := by
  rintro σ H Q ⟨δ, Z, S, FS, sr, ⟨r, hf⟩, ok, ex⟩
  unfold evDefer at hf ok ex
  cases e : δ[i]? with
  | none => rw [e] at hf; cases hf
  | some q =>
    cases q with
    | none => rw [e] at hf; cases hf
    | some d0 =>
      simp only [e] at hf ok ex
      obtain ⟨v, ev, rp⟩ := sr.slot i d0 e
      refine ⟨v, ev, ?_⟩
      refine hr σ H _ ⟨δ, Z, S, FS, sr, ?_, fun ds δ' h vs H' Z' FS' B p hV => ?_, fun x δ' h => ?_⟩
      · cases q : fr δ with
        | none => rw [q] at hf; cases hf
        | some w => exact ⟨w, rfl⟩
      · rw [h] at hf ok
        simp only at hf ok
        cases e2 : δ'[i]? with
        | none => rw [e2] at hf; cases hf
        | some q2 =>
          cases q2 with
          | none => rw [e2] at hf; cases hf
          | some d =>
            rw [e2] at ok
            obtain ⟨v2, ev2, rp2⟩ := p.sr.slot i d e2
            have ve : v2 = v := by rw [ev] at ev2; exact (Option.some.inj (Option.some.inj ev2)).symm
            subst ve
            refine ok (d :: ds) δ' rfl (v2 :: vs) H' Z' FS' (fun j => match j with | 0 => FS' i | j + 1 => B j) ⟨p.sr, p.st.sub fun a z => ?_, ⟨by simp [p.ar.l1], by simp [p.ar.l2], fun j d' v' k h1 h2 h3 => ?_, fun j j' x h1 h2 b1 b2 => ?_⟩, p.qq⟩ fun j k hk => ?_
            · rcases z with z | ⟨j, hj, z⟩
              · exact .inl z
              · cases j with
                | zero => simp at hj
                | succ j => exact .inr ⟨j, by simpa using hj, z⟩
            · cases j with
              | zero =>
                simp at h1 h2 h3
                subst h1 h2 h3
                rw [if_pos rfl]; exact ⟨rp2.any, fun x h => ⟨i, h⟩⟩
              | succ j => exact p.ar.rep j d' v' k (by simpa using h1) (by simpa using h2) (by simpa using h3)
            · cases j with
              | zero => simp at h1
              | succ j =>
                cases j' with
                | zero => simp at h2
                | succ j' => rw [p.ar.disj j j' x (by simpa using h1) (by simpa using h2) b1 b2]
            · cases j with
              | zero => simp at hk; subst hk; exact ⟨v2, rfl, ev2⟩
              | succ j => exact hV j k (by simpa using hk)
      · rw [h] at ex
        exact ex x δ' rfl
theorem rd_defer {i : Nat} {ks : List Bool} {qr : Bool} {fr : DS → Option EA} {tr : TA} (hr : ∀ σ H Q, rdA G W ks qr fr σ H Q → tr σ H Q) :
    ∀ σ H Q, rdA G W (true :: ks) qr (evDefer i fr) σ H Q → tCons (tVar i) tr σ H Q := fun σ H Q h => rd_deferV (vr := []) (fun σ H Q h => hr σ H Q (rdAV.of h)) σ H Q (rdAV.to h)
/-- an argument ahead of the others -/
theorem rd_consV {vw qa qr : Bool} {ks : List Bool} {vr : List (Option Nat)} {fa : DS → Option ER} {fr : DS → Option EA} {ta : TE} {tr : TA} (ha : ∀ σ H Q, rdE G W vw qa fa σ H Q → ta σ H Q) (hr : ∀ σ H Q, rdAV G W ks vr qr fr σ H Q → tr σ H Q) (hv : vw = true → qa = true) :
    ∀ σ H Q, rdAV G W (vw :: ks) (none :: vr) (qa && qr) (evCons vw qr fa fr) σ H Q → tCons ta tr σ H Q := by
  rintro σ H Q ⟨δ, Z, S, FS, sr, ⟨r, hf⟩, ok, ex⟩
  unfold evCons at hf ok ex
  refine ha σ H _ ⟨δ, Z, S, FS, sr, ?_, fun d δ1 h v H1 Z1 FS1 A p => ?_, fun x δ1 h => ?_⟩
  · cases q : fa δ with
    | none => rw [q] at hf; cases hf
    | some w => exact ⟨w, rfl⟩
  · rw [h] at hf ok ex
    simp only at hf ok ex
    by_cases hc : (vw && !qr && !isF d) = true
    · rw [if_pos hc] at hf; cases hf
    · rw [if_neg hc] at hf
      rw [if_neg hc] at ok ex
      refine hr σ H1 _ ⟨δ1, Z1, S, FS1, p.sr, ?_, fun ds δ2 h2 vs H2 Z2 FS2 B p2 hV => ?_, fun x δ2 h2 c dd H2 Z2 FS2 p2 => ?_⟩
      · cases q : fr δ1 with
        | none => rw [q] at hf; cases hf
        | some w => exact ⟨w, rfl⟩
      · rw [h2] at ok
        have fresh : ∀ x, A x → (∃ o, H1 x = some o) := fun x hx => by
          have vl := p.vl
          split at vl
          · exact vl.1.own x hx
          · exact vl.1.own x hx
        -- the first value behind the rest
        have keep : (if vw = true then Rep G Z2 (Own S) H2 d v A ∧ (∀ x, A x → Own FS2 x) else Rep G Z2 S0 H2 d v A ∧ ∀ x, A x → ¬ Z2 x ∧ ¬ Own S x ∧ ¬ Own FS2 x) := by
          have vl := p.vl
          cases hvw : vw with
          | true =>
            rw [hvw, if_pos rfl] at vl
            rw [if_pos rfl]
            by_cases hq : qr = true
            · obtain ⟨z2, z3⟩ := p2.qq hq
              rw [z2]
              exact ⟨vl.1.mono p2.st.zin (fun _ z => z) fun a _ o e => z3 a o e, vl.2⟩
            · have hF : isF d = true := by
                cases q : isF d with
                | true => rfl
                | false => exact absurd (by simp [hvw, hq, q]) hc
              obtain ⟨rf, nA⟩ := vl.1.frozen hF
              exact ⟨.fz (rf.step p2.st fun a z => (p.sr.nz a z).1) nA, fun x h => (nA x h).elim⟩
          | false =>
            rw [hvw, if_neg Bool.false_ne_true] at vl
            rw [if_neg Bool.false_ne_true]
            refine ⟨vl.1.step p2.st (fun a h => ⟨(p.sr.nz a h).1, fun z => z⟩) fun a h => (vl.2 a h).2.2, fun x hx => ?_⟩
            obtain ⟨n1, n2, n3⟩ := vl.2 x hx
            obtain ⟨o, eo⟩ := fresh x hx
            refine ⟨fun z => ?_, n2, fun z => ?_⟩
            · rcases p2.st.znew x z with z | z | z
              · exact n1 z
              · exact n3 z
              · rw [z] at eo; cases eo
            · rcases p2.st.pnew x (.inl z) with z | z
              · exact n3 z
              · rw [z] at eo; cases eo
        have apart : vw = false → ∀ j x, ks[j]? = some false → B j x → A x → False := fun hvw j x hj hb hx => by
          have vl := p.vl
          rw [hvw, if_neg Bool.false_ne_true] at vl
          obtain ⟨o, eo⟩ := fresh x hx
          rcases p2.st.pnew x (.inr ⟨j, hj, hb⟩) with z | z
          · exact (vl.2 x hx).2.2 z
          · rw [z] at eo; cases eo
        refine ok (d :: ds) δ2 rfl (v :: vs) H2 Z2 FS2 (fun j => match j with | 0 => A | j + 1 => B j) ⟨p2.sr, ?_, ⟨by simp [p2.ar.l1], by simp [p2.ar.l2], fun j d' v' k h1 h2 h3 => ?_, fun j j' x h1 h2 b1 b2 => ?_⟩, fun hq => ?_⟩ fun j k hk => ?_
        · refine ⟨fun a o e n => ?_, fun a o e => ?_, fun a z => p2.st.zin a (p.st.zin a z), fun a z => ?_, fun a z => ?_⟩
          · refine p2.st.keep a o (p.st.keep a o e n) fun z => ?_
            rcases p.st.pnew a (.inl z) with z | z
            · exact n z
            · rw [z] at e; cases e
          · obtain ⟨o1, e1⟩ := p.st.there a o e
            exact p2.st.there a o1 e1
          · have t := (p.st.sub (P2 := Own FS1) fun a z => .inl z).trans p2.st
            exact t.znew a z
          · have t := (p.st.sub (P2 := Own FS1) fun a z => .inl z).trans p2.st
            rcases z with z | ⟨j, hj, z⟩
            · exact t.pnew a (.inl z)
            · cases j with
              | zero => exact p.st.pnew a (.inr z)
              | succ j => exact t.pnew a (.inr ⟨j, by simpa using hj, z⟩)
        · cases j with
          | zero =>
            simp at h1 h2 h3
            subst h1 h2 h3
            exact keep
          | succ j => exact p2.ar.rep j d' v' k (by simpa using h1) (by simpa using h2) (by simpa using h3)
        · cases j with
          | zero =>
            cases j' with
            | zero => rfl
            | succ j' => exact (apart (by simpa using h1) j' x (by simpa using h2) b2 b1).elim
          | succ j =>
            cases j' with
            | zero => exact (apart (by simpa using h2) j x (by simpa using h1) b1 b2).elim
            | succ j' => rw [p2.ar.disj j j' x (by simpa using h1) (by simpa using h2) b1 b2]
        · obtain ⟨q1, q2⟩ := Bool.and_eq_true_iff.mp hq
          obtain ⟨a2, a3⟩ := p.qq q1
          obtain ⟨b2, b3⟩ := p2.qq q2
          exact ⟨b2.trans a2, a3.trans b3⟩
        · cases j with
          | zero => simp at hk
          | succ j => exact hV j k (by simpa using hk)
      · rw [h2] at ex
        exact ex x δ2 rfl c dd H2 Z2 FS2 ⟨p2.sr, (p.st.sub (P2 := Own FS1) fun a z => .inl z).trans p2.st, p2.xr⟩
  · rw [h] at ex
    exact ex x δ1 rfl
theorem rd_cons {vw qa qr : Bool} {ks : List Bool} {fa : DS → Option ER} {fr : DS → Option EA} {ta : TE} {tr : TA} (ha : ∀ σ H Q, rdE G W vw qa fa σ H Q → ta σ H Q) (hr : ∀ σ H Q, rdA G W ks qr fr σ H Q → tr σ H Q) (hv : vw = true → qa = true) :
    ∀ σ H Q, rdA G W (vw :: ks) (qa && qr) (evCons vw qr fa fr) σ H Q → tCons ta tr σ H Q := fun σ H Q h => rd_consV (vr := []) ha (fun σ H Q h => hr σ H Q (rdAV.of h)) hv σ H Q (rdAV.to h)
end
end PD
/-! P, part 2: data as the library reads it; the operations by values. -/
namespace PD
open PySem L2

mutual
def toP : D → PyData
  | .non => .none
  | .bl b => .bool b
  | .int i => .int i
  | .str x => .str x
  | .tup xs => .tuple (toPL xs)
  | .lst _ xs => .list (toPL xs)
  | _ => .none
def toPL : List D → List PyData
  | [] => []
  | d :: r => toP d :: toPL r
end
theorem toPL_eq : ∀ xs : List D, toPL xs = xs.map toP
  | [] => rfl
  | d :: r => by rw [toPL, toPL_eq r]; rfl
mutual
/-- data without dicts and instances, at most n deep -/
def dp : Nat → D → Bool
  | _, .non | _, .bl _ | _, .int _ | _, .str _ => true
  | 0, _ => false
  | n + 1, .tup xs => dpL n xs
  | n + 1, .lst _ xs => dpL n xs
  | _ + 1, .dic _ _ | _ + 1, .dit _ _ | _ + 1, .ins _ _ _ | _ + 1, .exc _ _ => false
def dpL : Nat → List D → Bool
  | _, [] => true
  | n, d :: r => dp n d && dpL n r
end
theorem dpL_all (n : Nat) : ∀ xs : List D, dpL n xs = xs.all (dp n)
  | [] => by simp [dpL]
  | d :: r => by rw [dpL, dpL_all n r]; rfl
mutual
theorem dp_plain : ∀ (n : Nat) (d : D), dp n d = true → (toP d).plain = true ∧ (toP d).depth ≤ n
  | n, .non, _ => by simp [toP, PyData.plain, PyData.depth]
  | n, .bl b, _ => by simp [toP, PyData.plain, PyData.depth]
  | n, .int i, _ => by simp [toP, PyData.plain, PyData.depth]
  | n, .str s, _ => by simp [toP, PyData.plain, PyData.depth]
  | 0, .tup xs, h => by simp [dp] at h
  | 0, .lst m xs, h => by simp [dp] at h
  | 0, .dic m xs, h => by simp [dp] at h
  | 0, .dit m xs, h => by simp [dp] at h
  | 0, .ins m c xs, h => by simp [dp] at h
  | 0, .exc c xs, h => by simp [dp] at h
  | n + 1, .tup xs, h => by
    obtain ⟨h1, h2⟩ := dpL_plain n xs (by rw [dp] at h; exact h)
    exact ⟨by rw [toP, PyData.plain]; exact h1, by rw [toP, PyData.depth]; omega⟩
  | n + 1, .lst m xs, h => by
    obtain ⟨h1, h2⟩ := dpL_plain n xs (by rw [dp] at h; exact h)
    exact ⟨by rw [toP, PyData.plain]; exact h1, by rw [toP, PyData.depth]; omega⟩
  | n + 1, .dic m xs, h => by simp [dp] at h
  | n + 1, .dit m xs, h => by simp [dp] at h
  | n + 1, .ins m c xs, h => by simp [dp] at h
  | n + 1, .exc c xs, h => by simp [dp] at h
theorem dpL_plain : ∀ (n : Nat) (xs : List D), dpL n xs = true → PyData.plainAll (toPL xs) = true ∧ PyData.depthAll (toPL xs) ≤ n
  | n, [], _ => by simp [toPL, PyData.plainAll, PyData.depthAll]
  | n, d :: r, h => by
    rw [dpL, Bool.and_eq_true] at h
    obtain ⟨a1, a2⟩ := dp_plain n d h.1
    obtain ⟨b1, b2⟩ := dpL_plain n r h.2
    exact ⟨by rw [toPL, PyData.plainAll, a1, b1]; rfl, by rw [toPL, PyData.depthAll]; omega⟩
end
def shal (m : Fl) : Bool := m != .oo && m != .ll
section
variable {G : GC} {Z S : AS} {H : Hp} {d : D} {v : V} {A : AS} {xs : List D}
theorem Rep.lstV {m : Fl} (r : Rep G Z S H (.lst m xs) v A) : ∃ a vs, v = .ref a ∧ SqL G.K H a vs ∧ xs.length = vs.length ∧ (∀ (i : Nat) d w, xs[i]? = some d → vs[i]? = some w → ∃ B, Rep G Z S H d w B ∧ ∀ x, B x → A x) ∧
    (m ≠ .k → H a = some (.lst vs)) ∧ (shal m = true → ∀ (i : Nat) d w, xs[i]? = some d → vs[i]? = some w → RepF G Z H d w) := by
  have n0 : ∀ x, ¬ S0 x := fun x h => h
  cases r with
  | fz h hA =>
    cases h with
    | lsk h hl he => exact ⟨_, _, rfl, h.imp (fun z => z.2) id, hl, fun i d w e1 e2 => ⟨S0, .fz (he i d w e1 e2) n0, fun x q => q.elim⟩, fun q => absurd rfl q, fun _ => he⟩
    | lst z h hl he => exact ⟨_, _, rfl, .inl (.inl h), hl, fun i d w e1 e2 => ⟨S0, .fz (he i d w e1 e2) n0, fun x q => q.elim⟩, fun _ => h, fun _ => he⟩
  | lo h hl he hA => exact ⟨_, _, rfl, .inl (.inl h), hl, fun i d w e1 e2 => ⟨S0, .fz (he i d w e1 e2) n0, fun x q => q.elim⟩, fun _ => h, fun _ => he⟩
  | loo B h hl he hd hn ho hA => exact ⟨_, _, rfl, .inl (.inl h), hl, fun i d w e1 e2 => ⟨B i, he i d w e1 e2, fun x q => (hA x).mpr (.inr ⟨i, q⟩)⟩, fun _ => h, fun q => absurd q (by decide)⟩
  | ll s h hl he hA => exact ⟨_, _, rfl, .inl (.inl h), hl, fun i d w e1 e2 => ⟨S0, .fz (he i d w e1 e2) n0, fun x q => q.elim⟩, fun _ => h, fun _ => he⟩
  | lll s h hl he hA => exact ⟨_, _, rfl, .inl (.inl h), hl, fun i d w e1 e2 => ⟨S0, he i d w e1 e2, fun x q => q.elim⟩, fun _ => h, fun q => absurd q (by decide)⟩
theorem Rep.tupV (r : Rep G Z S H (.tup xs) v A) : ∃ a vs, v = .ref a ∧ SqT G.K H a vs ∧ xs.length = vs.length ∧ (∀ (i : Nat) d w, xs[i]? = some d → vs[i]? = some w → RepF G Z H d w) ∧ ∀ x, ¬ A x := by
  cases r with
  | fz h hA =>
    cases h with
    | tup h hl he => exact ⟨_, _, rfl, h.imp (fun z => z.2) id, hl, he, hA⟩
theorem Rep.intV {i : Int} (r : Rep G Z S H (.int i) v A) : v = .int i := by cases r with | fz h hA => cases h; rfl
theorem Rep.strV {i : Str} (r : Rep G Z S H (.str i) v A) : v = .str i := by cases r with | fz h hA => cases h; rfl
theorem Rep.blV {i : Bool} (r : Rep G Z S H (.bl i) v A) : v = .bl i := by cases r with | fz h hA => cases h; rfl
theorem Rep.nonV (r : Rep G Z S H .non v A) : v = .non := by cases r with | fz h hA => cases h; rfl
theorem readsAll_of {h : Heap} : ∀ {ds : List PyData} {us : List Value}, ds.length = us.length → (∀ (i : Nat) d u, ds[i]? = some d → us[i]? = some u → ∃ as, Reads h u d as) → ∃ as, ReadsAll h us ds as
  | [], [], _, _ => ⟨_, .nil⟩
  | d :: ds, u :: us, hl, hh => by
    obtain ⟨a1, r1⟩ := hh 0 d u rfl rfl
    obtain ⟨a2, r2⟩ := readsAll_of (ds := ds) (us := us) (by simpa using hl) fun i d u e1 e2 => hh (i + 1) d u (by simpa using e1) (by simpa using e2)
    exact ⟨_, .cons r1 r2⟩
  | [], _ :: _, hl, _ => by simp at hl
  | _ :: _, [], hl, _ => by simp at hl
theorem vals_at : ∀ {vs : List V} {us : List Value} {i : Nat} {u : Value}, Vals vs us → us[i]? = some u → ∃ v, vs[i]? = some v ∧ RelV v u
  | _, _, _, _, .nil, e => by simp at e
  | _, _, 0, _, .cons r _, e => by simp at e; subst e; exact ⟨_, rfl, r⟩
  | _, _, i + 1, u, .cons _ t, e => by
    obtain ⟨v, h1, h2⟩ := vals_at (i := i) (u := u) t (by simpa using e)
    exact ⟨v, by simpa using h1, h2⟩
/-- what a value bears is what the library reads off it -/
theorem Rep.reads {X : Cx} {pins : List (Addr × Obj)} {σ : St} {s : Shared} (hK : X.K = G.K) (I : Inv X pins σ H s) : ∀ (n : Nat) {d : D} {v : V} {u : Value} {A : AS}, dp n d = true → Rep G Z S H d v A → RelV v u → ∃ as, Reads s.heap u (toP d) as := by
  intro n
  induction n with
  | zero =>
    intro d v u A h r e
    cases d with
    | non => rw [r.nonV] at e; cases e; exact ⟨_, .none⟩
    | bl b => rw [r.blV] at e; cases e; exact ⟨_, .bool b⟩
    | int i => rw [r.intV] at e; obtain ⟨t, rfl⟩ := e; exact ⟨_, .int i t⟩
    | str x => rw [r.strV] at e; obtain ⟨t, rfl⟩ := e; exact ⟨_, .str x t⟩
    | _ => simp [dp] at h
  | succ n ih =>
    intro d v u A h r e
    cases d with
    | non => rw [r.nonV] at e; cases e; exact ⟨_, .none⟩
    | bl b => rw [r.blV] at e; cases e; exact ⟨_, .bool b⟩
    | int i => rw [r.intV] at e; obtain ⟨t, rfl⟩ := e; exact ⟨_, .int i t⟩
    | str x => rw [r.strV] at e; obtain ⟨t, rfl⟩ := e; exact ⟨_, .str x t⟩
    | tup xs =>
      rw [dp, dpL_all, List.all_eq_true] at h
      obtain ⟨a, vs, rfl, sq, hl, he, _⟩ := r.tupV
      cases e
      rw [← hK] at sq
      obtain ⟨its, rv, ⟨o, ho, hc, c, hd⟩, _⟩ := I.tuple sq
      obtain ⟨as, q⟩ := readsAll_of (h := s.heap) (ds := toPL xs) (us := its) (by rw [toPL_eq, List.length_map, hl, rv.length]) fun i d u e1 e2 => by
        rw [toPL_eq] at e1
        obtain ⟨x, ex, rfl⟩ := getMap e1
        obtain ⟨w, ew, rw'⟩ := vals_at rv e2
        exact ih (h x (List.mem_of_getElem? ex)) (.fz (S := S) (A := S0) (he i x w ex ew) fun _ z => z) rw'
      exact ⟨_, Reads.tuple ho hc hd q⟩
    | lst m xs =>
      rw [dp, dpL_all, List.all_eq_true] at h
      obtain ⟨a, vs, rfl, sq, hl, he, _⟩ := r.lstV
      cases e
      rw [← hK] at sq
      obtain ⟨its, rv, ⟨o, c, ho, hc, _, hd⟩, _⟩ := I.list sq
      obtain ⟨as, q⟩ := readsAll_of (h := s.heap) (ds := toPL xs) (us := its) (by rw [toPL_eq, List.length_map, hl, rv.length]) fun i d u e1 e2 => by
        rw [toPL_eq] at e1
        obtain ⟨x, ex, rfl⟩ := getMap e1
        obtain ⟨w, ew, rw'⟩ := vals_at rv e2
        obtain ⟨B, rB, _⟩ := he i x w ex ew
        exact ih (h x (List.mem_of_getElem? ex)) rB rw'
      exact ⟨_, Reads.list ho hc hd q⟩
    | _ => simp [dp] at h
end

/-! ### operations by values -/
/-- the arguments, as what stands behind them -/
def ArgV (G : GC) (Z S : AS) (H : Hp) (ds : List D) (vs : List V) : Prop := ds.length = vs.length ∧ ∀ (j : Nat) d v, ds[j]? = some d → vs[j]? = some v → ∃ A, Rep G Z S H d v A
/-- an answer: a scalar, a frozen thing, or a new one -/
def OkV (G : GC) (Z : AS) (H : Hp) (d : D) (Q : VK) : Prop := ∀ v H' Z' A, Same H H' → (∀ a, Z a → Z' a) → (∀ a, Z' a → Z a ∨ (H a = none ∧ ∃ o, H' a = some o)) → Rep G Z' S0 H' d v A → (∀ x, A x → H x = none ∧ ¬ Z' x) → Q v H'
def Snd (G : GC) (g : List D → Option D) (r : List V → Hp → VK → Prop) : Prop :=
  ∀ Z S H ds vs d Q, (∀ a, Z a → ∃ o, H a = some o) → ArgV G Z S H ds vs → g ds = some d → OkV G Z H d Q → r vs H Q
def r2L (r : R2) : List V → Hp → VK → Prop := fun vs H Q => ∃ x y, vs = [x, y] ∧ r x y H Q
def r1L (r : V → Hp → VK → Prop) : List V → Hp → VK → Prop := fun vs H Q => ∃ x, vs = [x] ∧ r x H Q
def rmL (r : V → List V → Hp → VK → Prop) : List V → Hp → VK → Prop := fun vs H Q => ∃ x xs, vs = x :: xs ∧ r x xs H Q
def evOp (g : List D → Option D) (fa : DS → Option EA) : DS → Option ER := fun δ => match fa δ with
  | none => none
  | some (.ex x, δ') => some (.ex x, δ')
  | some (.ok ds, δ') => match g ds with
    | none => none
    | some d => some (.ok d, δ')
section
variable {G : GC} {W : WX}
theorem ArgR.argV {Z S : AS} {H : Hp} {FS : Nat → AS} {ks : List Bool} {ds : List D} {vs : List V} {B : Nat → AS} (a : ArgR G Z S H FS ks ds vs B) : ArgV G Z S H ds vs := by
  refine ⟨a.l1, fun j d v e1 e2 => ?_⟩
  have hj : j < ds.length := (List.getElem?_eq_some_iff.mp e1).1
  have hk : j < ks.length := by rw [a.l2]; exact hj
  have q := a.rep j d v ks[j] e1 e2 (by simp [hk])
  split at q
  · exact ⟨_, q.1⟩
  · exact ⟨_, q.1.s0⟩
theorem SR.grow {Z Z' : AS} {S : Nat → AS} {H H' : Hp} {δ : DS} {σ : St} {FS : Nat → AS} (r : SR G Z S H δ σ FS) (sm : Same H H') (zi : ∀ a, Z a → Z' a) (zn : ∀ a, Z' a → Z a ∨ (H a = none ∧ ∃ o, H' a = some o)) : SR G Z' S H' δ σ FS where
  len := r.len
  slot := fun i d e => let ⟨v, e1, rp⟩ := r.slot i d e; ⟨v, e1, rp.mono zi (fun _ z => z) fun a _ o e => sm a o e⟩
  empt := r.empt
  disj := r.disj
  zs := fun a z => by
    rcases zn a z with z | ⟨_, o, z⟩
    · obtain ⟨o, e⟩ := r.zs a z; exact ⟨o, sm a o e⟩
    · exact ⟨o, z⟩
  ss := fun a z => let ⟨o, e⟩ := r.ss a z; ⟨o, sm a o e⟩
  nz := fun a z => by
    refine ⟨fun q => ?_, (r.nz a z).2⟩
    rcases zn a q with q | ⟨q, _⟩
    · exact (r.nz a z).1 q
    · obtain ⟨o, e⟩ := r.own a z
      rw [q] at e; cases e
theorem rd_op {ks : List Bool} {qt : Bool} {g : List D → Option D} {r : List V → Hp → VK → Prop} {fa : DS → Option EA} {tr : TA} (hs : Snd G g r) (ha : ∀ σ H Q, rdA G W ks qt fa σ H Q → tr σ H Q) :
    ∀ σ H Q, rdE G W false qt (evOp g fa) σ H Q → tr σ H fun vs H1 => r vs H1 Q := by
  rintro σ H Q ⟨δ, Z, S, FS, sr, ⟨w, hf⟩, ok, ex⟩
  unfold evOp at hf ok ex
  refine ha σ H _ ⟨δ, Z, S, FS, sr, ?_, fun ds δ' h vs H' Z' FS' B p => ?_, fun x δ' h => ?_⟩
  · cases q : fa δ with
    | none => rw [q] at hf; cases hf
    | some w => exact ⟨w, rfl⟩
  · rw [h] at hf ok
    simp only at hf ok
    cases e : g ds with
    | none => rw [e] at hf; cases hf
    | some d =>
      rw [e] at ok
      refine hs Z' (Own S) H' ds vs d Q p.sr.zs p.ar.argV e fun v H2 Z2 A sm zi zn rp fr => ?_
      refine ok d δ' rfl v H2 Z2 FS' A ⟨p.sr.grow sm zi zn, ?_, ?_, fun q => ?_⟩
      · exact (p.st.sub (P2 := Own FS') fun a z => .inl z).trans ⟨fun a o e _ => sm a o e, fun a o e => ⟨o, sm a o e⟩, zi, fun a z => (zn a z).imp id fun q => .inr q.1, fun a z => z.imp id fun q => (fr a q).1⟩
      · rw [if_neg Bool.false_ne_true]
        refine ⟨rp, fun x hx => ?_⟩
        have nx := (fr x hx).1
        refine ⟨(fr x hx).2, fun z => ?_, fun z => ?_⟩
        · obtain ⟨o, e⟩ := p.sr.ss x z; rw [nx] at e; cases e
        · obtain ⟨o, e⟩ := p.sr.own x z; rw [nx] at e; cases e
      · obtain ⟨b, c⟩ := p.qq q
        exact ⟨b, c.trans sm⟩
  · rw [h] at ex
    exact ex x δ' rfl

/-! answers -/
variable {Z S : AS} {H : Hp} {d : D} {Q : VK}
theorem OkV.old {v : V} (h : OkV G Z H d Q) (r : RepF G Z H d v) : Q v H := h _ H Z S0 (fun _ _ e => e) (fun _ z => z) (fun _ z => .inl z) (.fz r fun _ z => z) fun _ z => z.elim
theorem OkV.int {i : Int} (h : OkV G Z H (.int i) Q) : Q (.int i) H := h.old (.int i)
theorem OkV.bl {i : Bool} (h : OkV G Z H (.bl i) Q) : Q (.bl i) H := h.old (.bl i)
theorem OkV.str {i : Str} (h : OkV G Z H (.str i) Q) : Q (.str i) H := h.old (.str i)
theorem OkV.non (h : OkV G Z H .non Q) : Q .non H := h.old .non
theorem same_upd {p : Addr} {o : HO} (n : H p = none) : Same H (upd H p o) := fun a u e => by rw [upd_ne (ne_of_none e n)]; exact e
/-- a new list -/
theorem OkV.lst (zs : ∀ a, Z a → ∃ o, H a = some o) {xs : List D} {vs : List V} (h : OkV G Z H (.lst .o xs) Q) (hl : xs.length = vs.length) (he : ∀ (i : Nat) d w, xs[i]? = some d → vs[i]? = some w → RepF G Z H d w) {p : Addr} (n : H p = none) : Q (.ref p) (upd H p (.lst vs)) :=
  h _ _ Z (fun x => x = p) (same_upd n) (fun _ z => z) (fun _ z => .inl z) (.lo upd_same hl (fun i d w e1 e2 => (he i d w e1 e2).same (same_upd n)) fun _ => Iff.rfl) fun x e => by
    subst e
    exact ⟨n, fun z => by obtain ⟨o, q⟩ := zs x z; rw [n] at q; cases q⟩
/-- a new tuple: frozen at once -/
theorem OkV.tup {xs : List D} {vs : List V} (h : OkV G Z H (.tup xs) Q) (hl : xs.length = vs.length) (he : ∀ (i : Nat) d w, xs[i]? = some d → vs[i]? = some w → RepF G Z H d w) {p : Addr} (n : H p = none) : Q (.ref p) (upd H p (.tup vs)) :=
  h _ _ (fun x => Z x ∨ x = p) S0 (same_upd n) (fun _ z => .inl z) (fun a z => z.imp id fun q => by subst q; exact ⟨n, _, upd_same⟩)
    (.fz (.tup (.inl ⟨.inr rfl, .inl upd_same⟩) hl fun i d w e1 e2 => (he i d w e1 e2).mono (fun _ z => .inl z) fun a _ o e => same_upd n a o e) fun _ z => z) fun _ z => z.elim
theorem argv0 {ds : List D} {vs : List V} (a : ArgV G Z S H ds vs) (e : ds = []) : vs = [] := by
  subst e
  cases vs with
  | nil => rfl
  | cons _ _ => exact absurd a.1 (by simp)
theorem argv1 {a1 : D} {vs : List V} (a : ArgV G Z S H [a1] vs) : ∃ x A, vs = [x] ∧ Rep G Z S H a1 x A := by
  obtain ⟨hl, h⟩ := a
  match vs, hl with
  | [x], _ =>
    obtain ⟨A, r⟩ := h 0 a1 x rfl rfl
    exact ⟨x, A, rfl, r⟩
theorem argv2 {a1 a2 : D} {vs : List V} (a : ArgV G Z S H [a1, a2] vs) : ∃ x y A B, vs = [x, y] ∧ Rep G Z S H a1 x A ∧ Rep G Z S H a2 y B := by
  obtain ⟨hl, h⟩ := a
  match vs, hl with
  | [x, y], _ =>
    obtain ⟨A, r⟩ := h 0 a1 x rfl rfl
    obtain ⟨B, r'⟩ := h 1 a2 y rfl rfl
    exact ⟨x, y, A, B, rfl, r, r'⟩
theorem argv3 {a1 a2 a3 : D} {vs : List V} (a : ArgV G Z S H [a1, a2, a3] vs) : ∃ x y z A B C, vs = [x, y, z] ∧ Rep G Z S H a1 x A ∧ Rep G Z S H a2 y B ∧ Rep G Z S H a3 z C := by
  obtain ⟨hl, h⟩ := a
  match vs, hl with
  | [x, y, z], _ =>
    obtain ⟨A, r⟩ := h 0 a1 x rfl rfl
    obtain ⟨B, r'⟩ := h 1 a2 y rfl rfl
    obtain ⟨C, r''⟩ := h 2 a3 z rfl rfl
    exact ⟨x, y, z, A, B, C, rfl, r, r', r''⟩
end
end PD
/-! P, part 3: the operations. -/
namespace PD
open PySem L2 PyProof.Rows

/-- what is known where a value-level operation runs -/
structure XO (G : GC) (X : Cx) : Prop where
  K : X.K = G.K
  hu : X.A.units + 200 < cLine

def rOf (G : GC) (g : List D → Option D) : List V → Hp → VK → Prop := fun vs H Q => ∃ Z S ds d, (∀ a, Z a → ∃ o, H a = some o) ∧ ArgV G Z S H ds vs ∧ g ds = some d ∧ OkV G Z H d Q
theorem snd_of (G : GC) (g : List D → Option D) : Snd G g (rOf G g) := fun Z S H ds vs d Q zs a e h => ⟨Z, S, ds, d, zs, a, e, h⟩
def BinOk (G : GC) (X : Cx) (f : Value → Value → Sem Value) (g : List D → Option D) : Prop := OpR X f fun x y H Q => rOf G g [x, y] H Q
def UnOk (G : GC) (X : Cx) (f : Value → Sem Value) (g : List D → Option D) : Prop := UnR X f fun x H Q => rOf G g [x] H Q
def CallOk (G : GC) (X : Cx) (f : Value) (g : List D → Option D) : Prop := CallR X f fun xs H Q => rOf G g xs H Q
def MtOk (G : GC) (X : Cx) (id : String) (g : List D → Option D) : Prop := MtR X id fun x xs H Q => rOf G g (x :: xs) H Q
def IxOk (G : GC) (X : Cx) (g : List D → Option D) : Prop := IxR X fun x y H Q => rOf G g [x, y] H Q
theorem BinOk.of {G : GC} {X : Cx} {f : Value → Value → Sem Value} {g : List D → Option D} {r : R2} (h : OpR X f r) (m : ∀ x y H Q, rOf G g [x, y] H Q → r x y H Q) : BinOk G X f g := fun pins s σ H x y v u Q I rx ry q => h pins s σ H x y v u Q I rx ry (m x y H Q q)
theorem CallOk.of {G : GC} {X : Cx} {f : Value} {g : List D → Option D} {r : List V → Hp → VK → Prop} (h : CallR X f r) (m : ∀ xs H Q, rOf G g xs H Q → r xs H Q) : CallOk G X f g := fun pins s σ H xs us Q I rx q => h pins s σ H xs us Q I rx (m xs H Q q)
theorem MtOk.of {G : GC} {X : Cx} {f : String} {g : List D → Option D} {r : V → List V → Hp → VK → Prop} (h : MtR X f r) (m : ∀ x xs H Q, rOf G g (x :: xs) H Q → r x xs H Q) : MtOk G X f g := fun pins s σ H x xs v us Q I rx r' q => h pins s σ H x xs v us Q I rx r' (m x xs H Q q)
theorem IxOk.of {G : GC} {X : Cx} {g : List D → Option D} {r : R2} (h : IxR X r) (m : ∀ x y H Q, rOf G g [x, y] H Q → r x y H Q) : IxOk G X g := fun a b pins s σ H x y v u Q I rx ry q e => h a b pins s σ H x y v u Q I rx ry (m x y H Q q) e
theorem UnOk.of {G : GC} {X : Cx} {f : Value → Sem Value} {g : List D → Option D} {r : V → Hp → VK → Prop} (h : UnR X f r) (m : ∀ x H Q, rOf G g [x] H Q → r x H Q) : UnOk G X f g := fun pins s σ H x v Q I rx q => h pins s σ H x v Q I rx (m x H Q q)

/-! ### numbers -/
def mulOk (i j : Int) : Bool := (decide (-(2 ^ 64) < i) && decide (i < 2 ^ 64)) || (decide (-(2 ^ 64) < j) && decide (j < 2 ^ 64))
def gSub : List D → Option D
  | [.int i, .int j] => some (.int (i - j))
  | _ => none
def gMul : List D → Option D
  | [.int i, .int j] => if mulOk i j then some (.int (i * j)) else none
  | _ => none
def gDiv : List D → Option D
  | [.int i, .int j] => if 0 < j ∧ j < 1073741824 then some (.int (i / j)) else none
  | _ => none
def gMod : List D → Option D
  | [.int i, .int j] => if 0 < j then some (.int (i % j)) else none
  | _ => none
def gPow : List D → Option D
  | [.int i, .int j] => if 0 ≤ j ∧ j ≤ 1000000 ∧ i.natAbs < 2 ^ 64 then some (.int (i ^ j.toNat)) else none
  | _ => none
def gNeg : List D → Option D
  | [.int i] => some (.int (-i))
  | _ => none
/-- + of numbers, texts, lists -/
def gAdd : List D → Option D
  | [.int i, .int j] => some (.int (i + j))
  | [.str a, .str b] => if a.length + b.length ≤ sizeLine then some (.str (a ++ b)) else none
  | [.lst m xs, .lst n ys] => if shal m && shal n && m != .k && n != .k && decide (xs.length + ys.length ≤ sizeLine) then some (.lst .o (xs ++ ys)) else none
  | [.tup xs, .tup ys] => if !xs.isEmpty && decide (xs.length + ys.length ≤ sizeLine) then some (.tup (xs ++ ys)) else none
  | _ => none
section
variable {G : GC} {X : Cx}
theorem ok_sub (h : XO G X) : BinOk G X (binaryOp .Sub) gSub := .of op_sub fun x y H Q ⟨Z, S, ds, d, zs, a, e, k⟩ => by
  unfold gSub at e
  split at e
  · cases e
    obtain ⟨x', y', A, B, ev, r1, r2⟩ := argv2 a
    cases ev
    rw [r1.intV, r2.intV]
    exact ⟨_, _, rfl, rfl, k.int⟩
  · cases e
theorem ok_mul (h : XO G X) : BinOk G X (binaryOp .Mult) gMul := .of op_mul fun x y H Q ⟨Z, S, ds, d, zs, a, e, k⟩ => by
  unfold gMul at e
  split at e
  · rename_i i j
    split at e
    · rename_i hm
      cases e
      obtain ⟨x', y', A, B, ev, r1, r2⟩ := argv2 a
      cases ev
      rw [r1.intV, r2.intV]
      refine ⟨_, _, rfl, rfl, ?_, k.int⟩
      unfold mulOk at hm
      simp only [Bool.or_eq_true, Bool.and_eq_true, decide_eq_true_eq] at hm
      exact hm
    · cases e
  · cases e
theorem ok_div (h : XO G X) : BinOk G X (binaryOp .FloorDiv) gDiv := .of op_fdiv fun x y H Q ⟨Z, S, ds, d, zs, a, e, k⟩ => by
  unfold gDiv at e
  split at e
  · split at e
    · rename_i hm
      cases e
      obtain ⟨x', y', A, B, ev, r1, r2⟩ := argv2 a
      cases ev
      rw [r1.intV, r2.intV]
      exact ⟨_, _, rfl, rfl, hm, k.int⟩
    · cases e
  · cases e
theorem ok_mod (h : XO G X) : BinOk G X (binaryOp .Mod) gMod := .of op_mod fun x y H Q ⟨Z, S, ds, d, zs, a, e, k⟩ => by
  unfold gMod at e
  split at e
  · split at e
    · rename_i hm
      cases e
      obtain ⟨x', y', A, B, ev, r1, r2⟩ := argv2 a
      cases ev
      rw [r1.intV, r2.intV]
      exact ⟨_, _, rfl, rfl, hm, k.int⟩
    · cases e
  · cases e
theorem ok_pow (h : XO G X) : BinOk G X (binaryOp .Pow) gPow := .of op_pow fun x y H Q ⟨Z, S, ds, d, zs, a, e, k⟩ => by
  unfold gPow at e
  split at e
  · split at e
    · rename_i hm
      cases e
      obtain ⟨x', y', A, B, ev, r1, r2⟩ := argv2 a
      cases ev
      rw [r1.intV, r2.intV]
      exact ⟨_, _, rfl, rfl, hm, k.int⟩
    · cases e
  · cases e
theorem ok_neg (h : XO G X) : UnOk G X (unaryOp .USub) gNeg := .of un_neg fun x H Q ⟨Z, S, ds, d, zs, a, e, k⟩ => by
  unfold gNeg at e
  split at e
  · cases e
    obtain ⟨x', A, ev, r1⟩ := argv1 a
    cases ev
    rw [r1.intV]
    exact ⟨_, rfl, k.int⟩
  · cases e
theorem app_at {α β : Type} {R : α → β → Prop} {xs ys : List α} {vs ws : List β} (l1 : xs.length = vs.length) (h1 : ∀ (i : Nat) d w, xs[i]? = some d → vs[i]? = some w → R d w) (h2 : ∀ (i : Nat) d w, ys[i]? = some d → ws[i]? = some w → R d w) :
    ∀ (i : Nat) d w, (xs ++ ys)[i]? = some d → (vs ++ ws)[i]? = some w → R d w := fun i d w e1 e2 => by
  by_cases h : i < xs.length
  · rw [List.getElem?_append_left h] at e1
    rw [List.getElem?_append_left (l1 ▸ h)] at e2
    exact h1 i d w e1 e2
  · rw [List.getElem?_append_right (by omega)] at e1
    rw [List.getElem?_append_right (by omega)] at e2
    rw [← l1] at e2
    exact h2 _ d w e1 e2
theorem ok_add (h : XO G X) : BinOk G X (binaryOp .Add) gAdd := .of (op_add.or (op_add_str.or (op_cat.or op_catT))) fun x y H Q ⟨Z, S, ds, d, zs, a, e, k⟩ => by
  unfold gAdd at e
  split at e
  · cases e
    obtain ⟨x', y', A, B, ev, r1, r2⟩ := argv2 a
    cases ev
    rw [r1.intV, r2.intV]
    exact .inl ⟨_, _, rfl, rfl, k.int⟩
  · split at e
    · rename_i hl
      cases e
      obtain ⟨x', y', A, B, ev, r1, r2⟩ := argv2 a
      cases ev
      rw [r1.strV, r2.strV]
      exact .inr (.inl ⟨_, _, rfl, rfl, hl, k.str⟩)
    · cases e
  · split at e
    · rename_i hc
      cases e
      simp only [Bool.and_eq_true, decide_eq_true_eq, bne_iff_ne] at hc
      obtain ⟨⟨⟨⟨h1, h2⟩, h3⟩, h4⟩, h5⟩ := hc
      obtain ⟨x', y', A, B, ev, r1, r2⟩ := argv2 a
      cases ev
      obtain ⟨p, vs, rfl, _, l1, _, e1, f1⟩ := r1.lstV
      obtain ⟨q, ws, rfl, _, l2, _, e2, f2⟩ := r2.lstV
      exact .inr (.inr (.inl ⟨_, _, _, _, rfl, rfl, e1 h3, e2 h4, by omega, fun p hp => k.lst zs (by simp [l1, l2]) (app_at l1 (f1 h1) (f2 h2)) hp⟩))
    · cases e
  · rename_i xs ys
    split at e
    · rename_i hc
      cases e
      simp only [Bool.and_eq_true, decide_eq_true_eq] at hc
      obtain ⟨h1, h5⟩ := hc
      obtain ⟨x', y', A, B, ev, r1, r2⟩ := argv2 a
      cases ev
      obtain ⟨p, vs, rfl, s1, l1, f1, _⟩ := r1.tupV
      obtain ⟨q, ws, rfl, s2, l2, f2, _⟩ := r2.tupV
      refine .inr (.inr (.inr ?_))
      rw [← h.K] at s1 s2
      refine ⟨_, _, _, _, rfl, rfl, s1, s2, fun z => ?_, by omega, fun z => ?_, fun z p hp => k.tup (by simp [l1, l2]) (app_at l1 f1 f2) hp⟩
      · subst z
        have : xs = [] := List.eq_nil_of_length_eq_zero l1
        subst this
        simp at h1
      · subst z
        have : ys = [] := List.eq_nil_of_length_eq_zero l2
        subst this
        rw [List.append_nil] at k
        rw [h.K] at s1
        cases r1 with
        | fz r _ => exact k.old r
    · cases e
  · cases e
end
end PD
/-! P, part 4: comparisons, items, slices, built-in functions. -/
namespace PD
open PySem L2 PyProof.Rows

def eqD (a b : D) : Bool := PyData.eqv (toP a) (toP b)
def gEq : List D → Option D
  | [a, b] => if dp 60 a && dp 60 b then some (.bl (eqD a b)) else none
  | _ => none
def gNe : List D → Option D
  | [a, b] => if dp 60 a && dp 60 b then some (.bl (!eqD a b)) else none
  | _ => none
def notNone : D → Bool
  | .non => false
  | _ => true
def cmpOk (a b : D) : Bool := dp 60 a && dp 60 b && W.alike (toP a) (toP b) && notNone a
def gLt : List D → Option D
  | [.int i, .int j] => some (.bl (decide (i < j)))
  | [a, b] => if cmpOk a b then some (.bl (W.dataLt (toP a) (toP b))) else none
  | _ => none
def gGt : List D → Option D
  | [.int i, .int j] => some (.bl (decide (j < i)))
  | [a, b] => if cmpOk a b then some (.bl (W.dataLt (toP b) (toP a))) else none
  | _ => none
def gLe : List D → Option D
  | [.int i, .int j] => some (.bl (decide (i ≤ j)))
  | [a, b] => if cmpOk a b then some (.bl (!W.dataLt (toP b) (toP a))) else none
  | _ => none
def gGe : List D → Option D
  | [.int i, .int j] => some (.bl (decide (j ≤ i)))
  | [a, b] => if cmpOk a b then some (.bl (!W.dataLt (toP a) (toP b))) else none
  | _ => none
def isNon : D → Bool
  | .non => true
  | _ => false
def gIs : List D → Option D
  | [a, .non] => some (.bl (isNon a))
  | _ => none
def gIsNot : List D → Option D
  | [a, .non] => some (.bl (!isNon a))
  | _ => none
/-- one text in another -/
def inStr (x z : Str) : Bool := match x.cps.toList with
  | [c] => decide (c ∈ z.cps.toList)
  | _ => !(Builtin.Str.occurrences z x 0 z.length 1).isEmpty
def gIn : List D → Option D
  | [.str x, .str z] => some (.bl (inStr x z))
  | [x, .lst _ ys] => if dp 60 x && dpL 60 ys then some (.bl (ys.any fun y => eqD y x)) else none
  | [x, .tup ys] => if dp 60 x && dpL 60 ys then some (.bl (ys.any fun y => eqD y x)) else none
  | _ => none
def gNotIn : List D → Option D
  | [.str x, .str z] => some (.bl (!inStr x z))
  | [x, .lst _ ys] => if dp 60 x && dpL 60 ys then some (.bl (!ys.any fun y => eqD y x)) else none
  | [x, .tup ys] => if dp 60 x && dpL 60 ys then some (.bl (!ys.any fun y => eqD y x)) else none
  | _ => none
section
variable {G : GC} {X : Cx}
theorem fin_b {pins : List (Addr × Obj)} {σ : L2.St} {H : Hp} {s : Shared} {Q : VK} {k : Bool} (I : Inv X pins σ H s) (q : Q (.bl k) H) : EP X pins σ Q (.bool k) s := ⟨.bl k, H, I, rfl, q⟩
theorem ok_eq (h : XO G X) : BinOk G X (compareOp .Eq) gEq := by
  intro pins s σ H x y v u Q I rx ry ⟨Z, S, ds, d, zs, a, e, k⟩
  unfold gEq at e
  split at e
  · split at e
    · rename_i a1 a2 hc
      rw [Bool.and_eq_true] at hc
      cases e
      obtain ⟨x', y', A, B, ev, r1, r2⟩ := argv2 a
      cases ev
      obtain ⟨as, q1⟩ := r1.reads h.K I 60 hc.1 rx
      obtain ⟨bs, q2⟩ := r2.reads h.K I 60 hc.2 ry
      obtain ⟨p1, d1⟩ := dp_plain 60 a1 hc.1
      obtain ⟨p2, d2⟩ := dp_plain 60 a2 hc.2
      exact SeqAt.eq_plain q1 q2 p1 p2 (by have := h.hu; omega) (fin_b I k.bl)
    · cases e
  · cases e
theorem ok_ne (h : XO G X) : BinOk G X (compareOp .NotEq) gNe := by
  intro pins s σ H x y v u Q I rx ry ⟨Z, S, ds, d, zs, a, e, k⟩
  unfold gNe at e
  split at e
  · split at e
    · rename_i a1 a2 hc
      rw [Bool.and_eq_true] at hc
      cases e
      obtain ⟨x', y', A, B, ev, r1, r2⟩ := argv2 a
      cases ev
      obtain ⟨as, q1⟩ := r1.reads h.K I 60 hc.1 rx
      obtain ⟨bs, q2⟩ := r2.reads h.K I 60 hc.2 ry
      obtain ⟨p1, d1⟩ := dp_plain 60 a1 hc.1
      obtain ⟨p2, d2⟩ := dp_plain 60 a2 hc.2
      exact SeqAt.ne_plain q1 q2 p1 p2 (by have := h.hu; omega) (fin_b I k.bl)
    · cases e
  · cases e
theorem cmp_get {pins : List (Addr × Obj)} {σ : L2.St} {H : Hp} {s : Shared} {Z S : AS} {a1 a2 : D} {vs : List V} {x y : V} {v u : Value} (h : XO G X) (I : Inv X pins σ H s) (rx : RelV x v) (ry : RelV y u) (a : ArgV G Z S H [a1, a2] [x, y]) (hc : cmpOk a1 a2 = true) :
    ∃ as bs, Reads s.heap v (toP a1) as ∧ Reads s.heap u (toP a2) bs ∧ W.alike (toP a1) (toP a2) = true ∧ toP a1 ≠ .none ∧ X.A.units + min (toP a1).depth (toP a2).depth < cLine := by
  unfold cmpOk at hc
  simp only [Bool.and_eq_true] at hc
  obtain ⟨⟨⟨h1, h2⟩, h3⟩, h4⟩ := hc
  obtain ⟨x', y', A, B, ev, r1, r2⟩ := argv2 a
  cases ev
  obtain ⟨as, q1⟩ := r1.reads h.K I 60 h1 rx
  obtain ⟨bs, q2⟩ := r2.reads h.K I 60 h2 ry
  obtain ⟨p1, d1⟩ := dp_plain 60 a1 h1
  refine ⟨as, bs, q1, q2, h3, fun z => ?_, by have := h.hu; omega⟩
  cases a1 <;> first | (simp [notNone] at h4; done) | (simp [toP] at z; done) | (simp [dp] at h1; done)
theorem ok_lt (h : XO G X) : BinOk G X (compareOp .Lt) gLt := by
  intro pins s σ H x y v u Q I rx ry ⟨Z, S, ds, d, zs, a, e, k⟩
  unfold gLt at e
  split at e
  · cases e
    obtain ⟨x', y', A, B, ev, r1, r2⟩ := argv2 a
    cases ev
    rw [r1.intV] at rx; rw [r2.intV] at ry
    exact op_lt pins s σ H _ _ v u Q I rx ry ⟨_, _, rfl, rfl, k.bl⟩
  · split at e
    · rename_i hc
      cases e
      obtain ⟨as, bs, q1, q2, q3, q4, q5⟩ := cmp_get (vs := []) h I rx ry a hc
      exact W.lt_data q1 q2 q3 q4 q5 (fin_b I k.bl)
    · cases e
  · cases e
theorem ok_gt (h : XO G X) : BinOk G X (compareOp .Gt) gGt := by
  intro pins s σ H x y v u Q I rx ry ⟨Z, S, ds, d, zs, a, e, k⟩
  unfold gGt at e
  split at e
  · cases e
    obtain ⟨x', y', A, B, ev, r1, r2⟩ := argv2 a
    cases ev
    rw [r1.intV] at rx; rw [r2.intV] at ry
    exact op_gt pins s σ H _ _ v u Q I rx ry ⟨_, _, rfl, rfl, k.bl⟩
  · split at e
    · rename_i hc
      cases e
      obtain ⟨as, bs, q1, q2, q3, q4, q5⟩ := cmp_get (vs := []) h I rx ry a hc
      exact W.gt_data q1 q2 q3 q4 q5 (fin_b I k.bl)
    · cases e
  · cases e
theorem ok_le (h : XO G X) : BinOk G X (compareOp .LtE) gLe := by
  intro pins s σ H x y v u Q I rx ry ⟨Z, S, ds, d, zs, a, e, k⟩
  unfold gLe at e
  split at e
  · cases e
    obtain ⟨x', y', A, B, ev, r1, r2⟩ := argv2 a
    cases ev
    rw [r1.intV] at rx; rw [r2.intV] at ry
    exact op_le pins s σ H _ _ v u Q I rx ry ⟨_, _, rfl, rfl, k.bl⟩
  · split at e
    · rename_i hc
      cases e
      obtain ⟨as, bs, q1, q2, q3, q4, q5⟩ := cmp_get (vs := []) h I rx ry a hc
      exact W.le_data q1 q2 q3 q4 q5 (fin_b I k.bl)
    · cases e
  · cases e
theorem ok_ge (h : XO G X) : BinOk G X (compareOp .GtE) gGe := by
  intro pins s σ H x y v u Q I rx ry ⟨Z, S, ds, d, zs, a, e, k⟩
  unfold gGe at e
  split at e
  · cases e
    obtain ⟨x', y', A, B, ev, r1, r2⟩ := argv2 a
    cases ev
    rw [r1.intV] at rx; rw [r2.intV] at ry
    exact op_ge pins s σ H _ _ v u Q I rx ry ⟨_, _, rfl, rfl, k.bl⟩
  · split at e
    · rename_i hc
      cases e
      obtain ⟨as, bs, q1, q2, q3, q4, q5⟩ := cmp_get (vs := []) h I rx ry a hc
      exact W.ge_data q1 q2 q3 q4 q5 (fin_b I k.bl)
    · cases e
  · cases e
theorem isNon_v {Z S : AS} {H : Hp} {d : D} {v : V} {A : AS} (r : Rep G Z S H d v A) : decide (v = .non) = isNon d := by
  cases r with
  | fz h hA => cases h <;> simp [isNon]
  | _ => simp [isNon]
theorem ok_is (h : XO G X) : BinOk G X (compareOp .Is) gIs := .of op_isN fun x y H Q ⟨Z, S, ds, d, zs, a, e, k⟩ => by
  unfold gIs at e
  split at e
  · cases e
    obtain ⟨x', y', A, B, ev, r1, r2⟩ := argv2 a
    cases ev
    refine ⟨r2.nonV, ?_⟩
    rw [isNon_v r1]; exact k.bl
  · cases e
theorem ok_isNot (h : XO G X) : BinOk G X (compareOp .IsNot) gIsNot := .of op_notN fun x y H Q ⟨Z, S, ds, d, zs, a, e, k⟩ => by
  unfold gIsNot at e
  split at e
  · cases e
    obtain ⟨x', y', A, B, ev, r1, r2⟩ := argv2 a
    cases ev
    refine ⟨r2.nonV, ?_⟩
    rw [isNon_v r1]; exact k.bl
  · cases e
theorem any_map (ys : List D) (x : D) : (toPL ys).any (fun y => PyData.eqv y (toP x)) = ys.any fun y => eqD y x := by
  rw [toPL_eq, List.any_map]; rfl
theorem str1 {x : Str} {c : Nat} (h : x.cps.toList = [c]) : x = ⟨#[c]⟩ := by
  obtain ⟨a⟩ := x
  have : a = #[c] := Array.toList_inj.mp (by simpa using h)
  rw [this]
theorem ok_in (h : XO G X) : BinOk G X (compareOp .In) gIn := by
  intro pins s σ H x y v u Q I rx ry ⟨Z, S, ds, d, zs, a, e, k⟩
  unfold gIn at e
  split at e
  · rename_i x' z'
    cases e
    obtain ⟨_, _, A, B, ev, r1, r2⟩ := argv2 a
    cases ev
    rw [r1.strV] at rx; rw [r2.strV] at ry
    have k' := k.bl
    unfold inStr at k'
    split at k'
    · rename_i c hc
      exact op_in_sign pins s σ H _ _ v u Q I rx ry ⟨c, z', by rw [str1 hc], rfl, k'⟩
    · exact op_in_str pins s σ H _ _ v u Q I rx ry ⟨x', z', rfl, rfl, k'⟩
  · split at e
    · rename_i x' m ys hc
      rw [Bool.and_eq_true] at hc
      cases e
      obtain ⟨_, _, A, B, ev, r1, r2⟩ := argv2 a
      cases ev
      obtain ⟨as, q1⟩ := r1.reads h.K I 60 hc.1 rx
      obtain ⟨bs, q2⟩ := r2.reads h.K I 61 (by rw [dp]; exact hc.2) ry
      obtain ⟨p1, d1⟩ := dp_plain 60 x' hc.1
      obtain ⟨p2, d2⟩ := dpL_plain 60 ys hc.2
      have k' := k.bl
      rw [← any_map] at k'
      exact SeqAt.in_list_data q2 q1 p2 p1 (by have := h.hu; omega) (fin_b I k')
    · cases e
  · split at e
    · rename_i x' ys hc
      rw [Bool.and_eq_true] at hc
      cases e
      obtain ⟨_, _, A, B, ev, r1, r2⟩ := argv2 a
      cases ev
      obtain ⟨as, q1⟩ := r1.reads h.K I 60 hc.1 rx
      obtain ⟨bs, q2⟩ := r2.reads h.K I 61 (by rw [dp]; exact hc.2) ry
      obtain ⟨p1, d1⟩ := dp_plain 60 x' hc.1
      obtain ⟨p2, d2⟩ := dpL_plain 60 ys hc.2
      have k' := k.bl
      rw [← any_map] at k'
      exact SeqAt.in_tuple_data q2 q1 p2 p1 (by have := h.hu; omega) (fin_b I k')
    · cases e
  · cases e
theorem ok_notIn (h : XO G X) : BinOk G X (compareOp .NotIn) gNotIn := by
  intro pins s σ H x y v u Q I rx ry ⟨Z, S, ds, d, zs, a, e, k⟩
  unfold gNotIn at e
  split at e
  · rename_i x' z'
    cases e
    obtain ⟨_, _, A, B, ev, r1, r2⟩ := argv2 a
    cases ev
    rw [r1.strV] at rx; rw [r2.strV] at ry
    have k' := k.bl
    unfold inStr at k'
    split at k'
    · rename_i c hc
      exact op_notIn_sign pins s σ H _ _ v u Q I rx ry ⟨c, z', by rw [str1 hc], rfl, k'⟩
    · exact op_notin_str pins s σ H _ _ v u Q I rx ry ⟨x', z', rfl, rfl, k'⟩
  · split at e
    · rename_i x' m ys hc
      rw [Bool.and_eq_true] at hc
      cases e
      obtain ⟨_, _, A, B, ev, r1, r2⟩ := argv2 a
      cases ev
      obtain ⟨as, q1⟩ := r1.reads h.K I 60 hc.1 rx
      obtain ⟨bs, q2⟩ := r2.reads h.K I 61 (by rw [dp]; exact hc.2) ry
      obtain ⟨p1, d1⟩ := dp_plain 60 x' hc.1
      obtain ⟨p2, d2⟩ := dpL_plain 60 ys hc.2
      have k' := k.bl
      rw [← any_map] at k'
      exact SeqAt.notIn_list_data q2 q1 p2 p1 (by have := h.hu; omega) (fin_b I k')
    · cases e
  · split at e
    · rename_i x' ys hc
      rw [Bool.and_eq_true] at hc
      cases e
      obtain ⟨_, _, A, B, ev, r1, r2⟩ := argv2 a
      cases ev
      obtain ⟨as, q1⟩ := r1.reads h.K I 60 hc.1 rx
      obtain ⟨bs, q2⟩ := r2.reads h.K I 61 (by rw [dp]; exact hc.2) ry
      obtain ⟨p1, d1⟩ := dp_plain 60 x' hc.1
      obtain ⟨p2, d2⟩ := dpL_plain 60 ys hc.2
      have k' := k.bl
      rw [← any_map] at k'
      exact SeqAt.notIn_tuple_data q2 q1 p2 p1 (by have := h.hu; omega) (fin_b I k')
    · cases e
  · cases e

/-! ### items, slices -/
theorem atI_el {α β : Type} {xs : List α} {vs : List β} {i : Int} {x : α} (hl : xs.length = vs.length) (h : atI xs i = some x) : ∃ (j : Nat) (w : β), xs[j]? = some x ∧ vs[j]? = some w ∧ atI vs i = some w := by
  unfold atI at h ⊢
  rw [hl] at h
  cases e : ixN vs.length i with
  | none => rw [e] at h; cases h
  | some j =>
    rw [e] at h
    have h' : xs[j]? = some x := h
    have hj : j < vs.length := hl ▸ (List.getElem?_eq_some_iff.mp h').1
    exact ⟨j, vs[j], h', by simp [hj], by simp [hj]⟩
def gItem : List D → Option D
  | [.lst _ xs, .int i] => (atI xs i).bind fun d => if isF d then some d else none
  | [.tup xs, .int i] => atI xs i
  | [.str z, .int i] => if z.length ≤ sizeLine then (atI z.cps.toList i).map fun c => .str ⟨#[c]⟩ else none
  | _ => none
theorem ok_item (h : XO G X) : IxOk G X gItem := .of ix_seq fun x y H Q ⟨Z, S, ds, d, zs, a, e, k⟩ => by
  unfold gItem at e
  split at e
  · rename_i m xs i
    obtain ⟨_, _, A, B, ev, r1, r2⟩ := argv2 a
    cases ev
    rw [r2.intV]
    cases q : atI xs i with
    | none => rw [q] at e; cases e
    | some d' =>
      rw [q] at e
      simp only [Option.bind_some] at e
      split at e
      · rename_i hf
        cases e
        obtain ⟨p, vs, rfl, sq, hl, he, _⟩ := r1.lstV
        obtain ⟨j, w, e1, e2, e3⟩ := atI_el hl q
        obtain ⟨B', rB, _⟩ := he j d w e1 e2
        rw [← h.K] at sq
        exact .inl ⟨p, vs, i, w, rfl, rfl, sq, e3, k.old (rB.frozen hf).1⟩
      · cases e
  · rename_i xs i
    obtain ⟨_, _, A, B, ev, r1, r2⟩ := argv2 a
    cases ev
    rw [r2.intV]
    obtain ⟨p, vs, rfl, sq, hl, he, _⟩ := r1.tupV
    obtain ⟨j, w, e1, e2, e3⟩ := atI_el hl e
    rw [← h.K] at sq
    exact .inr (.inl ⟨p, vs, i, w, rfl, rfl, sq, e3, k.old (he j d w e1 e2)⟩)
  · rename_i z i
    split at e
    · rename_i hz
      obtain ⟨_, _, A, B, ev, r1, r2⟩ := argv2 a
      cases ev
      rw [r2.intV, r1.strV]
      cases q : atI z.cps.toList i with
      | none => rw [q] at e; cases e
      | some c =>
        rw [q] at e
        cases e
        exact .inr (.inr ⟨z, i, c, rfl, rfl, hz, q, k.str⟩)
    · cases e
  · cases e
/-! ### built-in functions -/
def gLen : List D → Option D
  | [.str z] => if z.length ≤ sizeLine then some (.int z.length) else none
  | [.lst _ xs] => some (.int xs.length)
  | [.tup xs] => some (.int xs.length)
  | _ => none
theorem ok_len (h : XO G X) : CallOk G X (.builtin "len") gLen := .of (call_len_str.or call_len_seq) fun xs H Q ⟨Z, S, ds, d, zs, a, e, k⟩ => by
  unfold gLen at e
  split at e
  · split at e
    · rename_i hz
      cases e
      obtain ⟨_, A, rfl, r1⟩ := argv1 a
      rw [r1.strV]
      exact .inl ⟨_, rfl, hz, k.int⟩
    · cases e
  · cases e
    obtain ⟨_, A, rfl, r1⟩ := argv1 a
    obtain ⟨p, vs, rfl, sq, hl, he, _⟩ := r1.lstV
    rw [← h.K] at sq
    exact .inr ⟨p, vs, rfl, .inl sq, by rw [← hl]; exact k.int⟩
  · cases e
    obtain ⟨_, A, rfl, r1⟩ := argv1 a
    obtain ⟨p, vs, rfl, sq, hl, he, _⟩ := r1.tupV
    rw [← h.K] at sq
    exact .inr ⟨p, vs, rfl, .inr sq, by rw [← hl]; exact k.int⟩
  · cases e
def gAbs : List D → Option D
  | [.int i] => some (.int (if i < 0 then -i else i))
  | _ => none
theorem ok_abs (h : XO G X) : CallOk G X (.builtin "abs") gAbs := .of call_abs fun xs H Q ⟨Z, S, ds, d, zs, a, e, k⟩ => by
  unfold gAbs at e
  split at e
  · cases e
    obtain ⟨_, A, rfl, r1⟩ := argv1 a
    rw [r1.intV]
    exact ⟨_, rfl, k.int⟩
  · cases e
def gIntOf : List D → Option D
  | [.int i] => some (.int i)
  | [.bl b] => some (.int (if b then 1 else 0))
  | [.str z] => if z.length ≤ 640 then (PySem.intText? z).map fun n => .int n else none
  | _ => none
theorem ok_int (h : XO G X) : CallOk G X (.type "int") gIntOf := .of (call_int1.or call_int_str) fun xs H Q ⟨Z, S, ds, d, zs, a, e, k⟩ => by
  unfold gIntOf at e
  split at e
  · cases e
    obtain ⟨_, A, rfl, r1⟩ := argv1 a
    rw [r1.intV]
    exact .inl (.inl ⟨_, rfl, k.int⟩)
  · cases e
    obtain ⟨_, A, rfl, r1⟩ := argv1 a
    rw [r1.blV]
    exact .inl (.inr ⟨_, rfl, k.int⟩)
  · rename_i z
    split at e
    · rename_i hz
      obtain ⟨_, A, rfl, r1⟩ := argv1 a
      rw [r1.strV]
      cases q : PySem.intText? z with
      | none => rw [q] at e; cases e
      | some n =>
        rw [q] at e
        cases e
        exact .inr ⟨z, n, rfl, q, hz, k.int⟩
    · cases e
  · cases e
def gStrOf : List D → Option D
  | [.int i] => if i.natAbs.log2 < 1920 then some (.str (toString i)) else none
  | _ => none
theorem ok_str (h : XO G X) : CallOk G X (.type "str") gStrOf := .of call_str_int fun xs H Q ⟨Z, S, ds, d, zs, a, e, k⟩ => by
  unfold gStrOf at e
  split at e
  · split at e
    · rename_i hz
      cases e
      obtain ⟨_, A, rfl, r1⟩ := argv1 a
      rw [r1.intV]
      exact ⟨_, rfl, hz, k.str⟩
    · cases e
  · cases e
/-- list(x) of a list or a tuple -/
def gList : List D → Option D
  | [.lst m xs] => if shal m then some (.lst .o xs) else none
  | [.tup xs] => some (.lst .o xs)
  | _ => none
theorem ok_list (h : XO G X) : CallOk G X (.type "list") gList := .of call_list_of fun xs H Q ⟨Z, S, ds, d, zs, a, e, k⟩ => by
  unfold gList at e
  split at e
  · split at e
    · rename_i hs
      cases e
      obtain ⟨_, A, rfl, r1⟩ := argv1 a
      obtain ⟨p, vs, rfl, sq, hl, he, _, hf⟩ := r1.lstV
      rw [← h.K] at sq
      exact ⟨p, vs, rfl, .inl sq, fun l hn => k.lst zs hl (hf hs) hn⟩
    · cases e
  · cases e
    obtain ⟨_, A, rfl, r1⟩ := argv1 a
    obtain ⟨p, vs, rfl, sq, hl, hf, _⟩ := r1.tupV
    rw [← h.K] at sq
    exact ⟨p, vs, rfl, .inr sq, fun l hn => k.lst zs hl hf hn⟩
  · cases e
def gTuple : List D → Option D
  | [.lst m xs] => if shal m then some (.tup xs) else none
  | [.tup xs] => some (.tup xs)
  | _ => none
theorem ok_tuple (h : XO G X) : CallOk G X (.type "tuple") gTuple := .of call_tuple_of fun xs H Q ⟨Z, S, ds, d, zs, a, e, k⟩ => by
  unfold gTuple at e
  split at e
  · split at e
    · rename_i hs
      cases e
      obtain ⟨_, A, rfl, r1⟩ := argv1 a
      obtain ⟨p, vs, rfl, sq, hl, he, _, hf⟩ := r1.lstV
      rw [← h.K] at sq
      exact ⟨p, vs, rfl, .inl ⟨sq, fun l hn => k.tup hl (hf hs) hn⟩⟩
    · cases e
  · cases e
    obtain ⟨_, A, rfl, r1⟩ := argv1 a
    obtain ⟨p, vs, rfl, sq, hl, hf, _⟩ := r1.tupV
    rw [← h.K] at sq
    refine ⟨p, vs, rfl, .inr ⟨sq, ?_⟩⟩
    cases r1 with
    | fz r _ => exact k.old r
  · cases e
end
end PD
/-! P, part 5: names frozen or moved, displays, ways. -/
namespace PD
open PySem L2

/-- what is stored elsewhere is frozen -/
def cap (d : D) : D := if isF d then d else frz d
/-- a view is stored elsewhere only if it is frozen -/
def capOk : List Bool → List D → Bool
  | k :: ks, d :: ds => (!k || isF d) && capOk ks ds
  | _, _ => true
theorem capOk_at : ∀ {ks : List Bool} {ds : List D} {j : Nat} {d : D}, capOk ks ds = true → ks[j]? = some true → ds[j]? = some d → isF d = true
  | [], _, j, d, _, h, _ => by simp at h
  | k :: ks, [], j, d, _, _, h => by simp at h
  | k :: ks, d' :: ds, 0, d, hc, h1, h2 => by
    simp at h1 h2
    subst h1 h2
    simp [capOk] at hc
    exact hc.1
  | k :: ks, d' :: ds, j + 1, d, hc, h1, h2 => by
    simp [capOk] at hc
    exact capOk_at hc.2 (by simpa using h1) (by simpa using h2)
mutual
/-- no lent node that its holder would freeze -/
def noL : D → Bool
  | .lst m xs => match m with | .l => false | .ll => false | .oo => noLL xs | _ => true
  | .dic m xs => match m with | .l => false | .ll => false | .oo => noLK xs | _ => true
  | .dit m _ => match m with | .l => false | _ => true
  | .ins m _ xs => match m with | .f => true | .oo => noLN xs | _ => false
  | .exc _ _ => false
  | _ => true
def noLL : List D → Bool
  | [] => true
  | d :: r => noL d && noLL r
def noLK : List (Key × D) → Bool
  | [] => true
  | (_, d) :: r => noL d && noLK r
def noLN : List (Nat × D) → Bool
  | [] => true
  | (_, d) :: r => noL d && noLN r
end
theorem noLL_at : ∀ {xs : List D} {i : Nat} {d : D}, noLL xs = true → xs[i]? = some d → noL d = true
  | d :: r, 0, _, h, e => by simp at e; subst e; rw [noLL, Bool.and_eq_true] at h; exact h.1
  | d :: r, i + 1, _, h, e => by rw [noLL, Bool.and_eq_true] at h; exact noLL_at h.2 (by simpa using e)
theorem noLK_at : ∀ {xs : List (Key × D)} {i : Nat} {p : Key × D}, noLK xs = true → xs[i]? = some p → noL p.2 = true
  | (_, d) :: r, 0, _, h, e => by simp at e; subst e; rw [noLK, Bool.and_eq_true] at h; exact h.1
  | (_, d) :: r, i + 1, _, h, e => by rw [noLK, Bool.and_eq_true] at h; exact noLK_at h.2 (by simpa using e)
theorem noLN_at : ∀ {xs : List (Nat × D)} {i : Nat} {p : Nat × D}, noLN xs = true → xs[i]? = some p → noL p.2 = true
  | (_, d) :: r, 0, _, h, e => by simp at e; subst e; rw [noLN, Bool.and_eq_true] at h; exact h.1
  | (_, d) :: r, i + 1, _, h, e => by rw [noLN, Bool.and_eq_true] at h; exact noLN_at h.2 (by simpa using e)
theorem Rep.noL {G : GC} {Z S : AS} {H : Hp} {d : D} {v : V} {A : AS} (r : Rep G Z S H d v A) : noL d = true → Rep G Z S0 H d v A := by
  induction r with
  | fz h hA => exact fun _ => .fz h hA
  | lo h hl he hA => exact fun _ => .lo h hl he hA
  | loo B h hl he hd hn ho hA ih => exact fun q => .loo B h hl (fun i d v e1 e2 => ih i d v e1 e2 (noLL_at (show noLL _ = true from q) e1)) hd hn ho hA
  | ll s h hl he hA => exact fun q => absurd (show false = true from q) Bool.false_ne_true
  | lll s h hl he hA ih => exact fun q => absurd (show false = true from q) Bool.false_ne_true
  | dco h hl he hA => exact fun _ => .dco h hl he hA
  | dcoo B h hl he hd hn ho hA ih => exact fun q => .dcoo B h hl (fun i d v e1 e2 => ih i d v e1 e2 (noLK_at (show noLK _ = true from q) e1)) hd hn ho hA
  | dcl s h hl he hA => exact fun q => absurd (show false = true from q) Bool.false_ne_true
  | dcll s h hl he hA ih => exact fun q => absurd (show false = true from q) Bool.false_ne_true
  | dto h hl he hA => exact fun _ => .dto h hl he hA
  | dtl s h hl he hA => exact fun q => absurd (show false = true from q) Bool.false_ne_true
  | ioo B h hl he hd hn ho hA ih => exact fun q => .ioo B h hl (fun i d v e1 e2 => ih i d v e1 e2 (noLN_at (show noLN _ = true from q) e1)) hd hn ho hA
  | ill s h hl he hA ih => exact fun q => absurd (show false = true from q) Bool.false_ne_true
/-- a name, frozen by being read -/
def evFv (i : Nat) : DS → Option ER := fun δ => match δ[i]? with
  | some (some d) => if isF d then some (.ok d, δ) else if noL d then some (.ok (frz d), δ.set i (some (frz d))) else none
  | _ => none
/-- a name, given away -/
def evMv (i : Nat) : DS → Option ER := fun δ => match δ[i]? with
  | some (some d) => if noL d then some (.ok d, δ.set i none) else none
  | _ => none
def evTup (ks : List Bool) (fa : DS → Option EA) : DS → Option ER := fun δ => match fa δ with
  | none => none
  | some (.ex x, δ') => some (.ex x, δ')
  | some (.ok ds, δ') => if capOk ks ds && decide (ds.length ≤ 1000) then some (.ok (.tup (ds.map cap)), δ') else none
def evLst (ks : List Bool) (fa : DS → Option EA) : DS → Option ER := fun δ => match fa δ with
  | none => none
  | some (.ex x, δ') => some (.ex x, δ')
  | some (.ok ds, δ') => if capOk ks ds && decide (ds.length ≤ 1000) then some (.ok (.lst .o (ds.map cap)), δ') else none

section
variable {G : GC} {W : WX} {X : Cx}
/-- no lent node: such data is owned or frozen through and through -/
theorem Rep.unlent {Z S : AS} {H : Hp} {d : D} {v : V} {A : AS} (r : Rep G Z S H d v A) (s : ∀ a, S a → False) : Rep G Z S0 H d v A :=
  r.mono (fun _ z => z) (fun a z => (s a z).elim) fun _ _ _ e => e
theorem set_at {α : Type} {xs : List (Option α)} {i j : Nat} {y : Option α} {d : α} (h : (xs.set i y)[j]? = some (some d)) : (j = i ∧ y = some d) ∨ (j ≠ i ∧ xs[j]? = some (some d)) := by
  by_cases e : j = i
  · subst e
    by_cases hl : j < xs.length
    · rw [List.getElem?_set_self hl] at h
      exact .inl ⟨rfl, Option.some.inj h⟩
    · rw [List.getElem?_eq_none (by simpa using hl)] at h; cases h
  · rw [List.getElem?_set_ne (Ne.symm e)] at h
    exact .inr ⟨e, h⟩
/-- a slot's value is frozen in its place -/
theorem SR.freeze {Z : AS} {S : Nat → AS} {H : Hp} {δ : DS} {σ : St} {FS : Nat → AS} {i : Nat} {d d' : D} {v : V} (r : SR G Z S H δ σ FS) (e : δ[i]? = some (some d)) (ev : σ[i]? = some (some v)) (rf : RepF G (fun x => Z x ∨ FS i x) H d' v) :
    SR G (fun x => Z x ∨ FS i x) S H (δ.set i (some d')) σ (fun j x => j ≠ i ∧ FS j x) where
  len := by rw [List.length_set]; exact r.len
  slot := fun j w ew => by
    rcases set_at ew with ⟨hj, ew2⟩ | ⟨hj, ew2⟩
    · cases ew2
      exact ⟨v, by rw [hj]; exact ev, .fz rf fun x q => q.1 hj⟩
    · obtain ⟨u, eu, rp⟩ := r.slot j w ew2
      refine ⟨u, eu, (rp.mono (fun _ z => .inl z) (fun _ z => z) fun _ _ _ e => e).congr fun x => ⟨fun q => q.2, fun q => ⟨hj, q⟩⟩⟩
  empt := fun j h x q => by
    by_cases hj : j = i
    · exact q.1 hj
    · refine r.empt j (fun w ew => h w ?_) x q.2
      rw [List.getElem?_set_ne (Ne.symm hj)]; exact ew
  disj := fun j k x a b => r.disj j k x a.2 b.2
  zs := fun a z => z.elim (r.zs a) fun q => r.own a ⟨i, q⟩
  ss := r.ss
  nz := fun a ⟨j, hj, q⟩ => ⟨fun z => z.elim (r.nz a ⟨j, q⟩).1 fun z => hj (r.disj j i a q z), (r.nz a ⟨j, q⟩).2⟩
theorem frz_of {Z : AS} {H : Hp} {d : D} {v : V} (r : RepF G Z H d v) : isF d = true := by cases r <;> rfl
theorem isF_frz {Z S : AS} {H : Hp} {d : D} {v : V} {A : AS} (r : Rep G Z S0 H d v A) : isF (frz d) = true := frz_of r.freeze
theorem rd_fv {i : Nat} : ∀ σ H Q, rdE G W false false (evFv i) σ H Q → tVar i σ H Q := by
  rintro σ H Q ⟨δ, Z, S, FS, sr, ⟨r, hr⟩, ok, -⟩
  unfold evFv at hr ok
  cases e : δ[i]? with
  | none => rw [e] at hr; cases hr
  | some q =>
    cases q with
    | none => rw [e] at hr; cases hr
    | some d =>
      simp only [e] at hr ok
      obtain ⟨v, ev, rp⟩ := sr.slot i d e
      by_cases hF : isF d = true
      · rw [if_pos hF] at ok
        obtain ⟨rf, nA⟩ := rp.frozen hF
        refine ⟨v, ev, ok d δ rfl v H Z FS S0 ⟨sr, Step.quiet fun x h => h.elim, ?_, fun q => absurd q Bool.false_ne_true⟩⟩
        rw [if_neg Bool.false_ne_true]
        exact ⟨.fz rf fun _ h => h, fun x h => h.elim⟩
      · rw [if_neg hF] at hr ok
        by_cases hN : noL d = true
        · rw [if_pos hN] at ok
          have rf := (rp.noL hN).freeze
          refine ⟨v, ev, ok (frz d) _ rfl v H _ _ S0 ⟨sr.freeze e ev rf, ?_, ?_, fun q => absurd q Bool.false_ne_true⟩⟩
          · exact ⟨fun a o e _ => e, fun a o e => ⟨o, e⟩, fun a z => .inl z, fun a z => z.imp id fun q => .inl ⟨i, q⟩, fun a z => z.elim (fun ⟨j, _, q⟩ => .inl ⟨j, q⟩) fun q => q.elim⟩
          · rw [if_neg Bool.false_ne_true]
            exact ⟨.fz rf fun _ h => h, fun x h => h.elim⟩
        · rw [if_neg hN] at hr; cases hr
/-- a slot is emptied -/
theorem SR.clear {Z : AS} {S : Nat → AS} {H : Hp} {δ : DS} {σ : St} {FS : Nat → AS} {i : Nat} (r : SR G Z S H δ σ FS) : SR G Z S H (δ.set i none) σ (fun j x => j ≠ i ∧ FS j x) where
  len := by rw [List.length_set]; exact r.len
  slot := fun j w ew => by
    rcases set_at ew with ⟨hj, ew2⟩ | ⟨hj, ew2⟩
    · cases ew2
    · obtain ⟨u, eu, rp⟩ := r.slot j w ew2
      exact ⟨u, eu, rp.congr fun x => ⟨fun q => q.2, fun q => ⟨hj, q⟩⟩⟩
  empt := fun j h x q => by
    refine r.empt j (fun w ew => h w ?_) x q.2
    rw [List.getElem?_set_ne (Ne.symm q.1)]; exact ew
  disj := fun j k x a b => r.disj j k x a.2 b.2
  zs := r.zs
  ss := r.ss
  nz := fun a ⟨j, hj, q⟩ => r.nz a ⟨j, q⟩
theorem rd_mv {i : Nat} : ∀ σ H Q, rdE G W false false (evMv i) σ H Q → tVar i σ H Q := by
  rintro σ H Q ⟨δ, Z, S, FS, sr, ⟨r, hr⟩, ok, -⟩
  unfold evMv at hr ok
  cases e : δ[i]? with
  | none => rw [e] at hr; cases hr
  | some q =>
    cases q with
    | none => rw [e] at hr; cases hr
    | some d =>
      simp only [e] at hr ok
      obtain ⟨v, ev, rp⟩ := sr.slot i d e
      by_cases hN : noL d = true
      · rw [if_pos hN] at ok
        refine ⟨v, ev, ok d _ rfl v H Z _ (FS i) ⟨sr.clear, ?_, ?_, fun q => absurd q Bool.false_ne_true⟩⟩
        · exact (Step.refl H Z (Own FS)).sub fun a z => z.elim (fun ⟨j, _, q⟩ => ⟨j, q⟩) fun q => ⟨i, q⟩
        · rw [if_neg Bool.false_ne_true]
          exact ⟨rp.noL hN, fun x h => ⟨(sr.nz x ⟨i, h⟩).1, (sr.nz x ⟨i, h⟩).2, fun ⟨j, hj, q⟩ => hj (sr.disj j i x q h)⟩⟩
      · rw [if_neg hN] at hr; cases hr
/-- what the arguments hold goes to Z -/
theorem caps {Z S : AS} {H : Hp} {FS : Nat → AS} {ks : List Bool} {ds : List D} {vs : List V} {B : Nat → AS} (a : ArgR G Z S H FS ks ds vs B) (hc : capOk ks ds = true) :
    ∀ (j : Nat) d v, (ds.map cap)[j]? = some d → vs[j]? = some v → RepF G (fun x => Z x ∨ Tm ks B x) H d v := fun j d v e1 e2 => by
  obtain ⟨d0, e0, rfl⟩ := getMap e1
  have hj : j < ds.length := (List.getElem?_eq_some_iff.mp e0).1
  have hk : j < ks.length := by rw [a.l2]; exact hj
  have ek : ks[j]? = some ks[j] := by simp [hk]
  have q := a.rep j d0 v ks[j] e0 e2 ek
  unfold cap
  cases hkv : ks[j] with
  | true =>
    rw [hkv, if_pos rfl] at q
    rw [hkv] at ek
    have hF := capOk_at hc ek e0
    rw [if_pos hF]
    exact (q.1.frozen hF).1.mono (fun _ z => .inl z) fun _ _ _ e => e
  | false =>
    rw [hkv, if_neg Bool.false_ne_true] at q
    rw [hkv] at ek
    by_cases hF : isF d0 = true
    · rw [if_pos hF]
      exact (q.1.frozen hF).1.mono (fun _ z => .inl z) fun _ _ _ e => e
    · rw [if_neg hF]
      exact q.1.freeze.mono (fun x z => z.imp id fun w => ⟨j, ek, w⟩) fun _ _ _ e => e
/-- .. and the state stays -/
theorem SR.more {Z : AS} {S : Nat → AS} {H : Hp} {δ : DS} {σ : St} {FS : Nat → AS} {T : AS} (r : SR G Z S H δ σ FS) (ht : ∀ x, T x → (∃ o, H x = some o) ∧ ¬ Own S x ∧ ¬ Own FS x) : SR G (fun x => Z x ∨ T x) S H δ σ FS where
  len := r.len
  slot := fun i d e => let ⟨v, e1, rp⟩ := r.slot i d e; ⟨v, e1, rp.mono (fun _ z => .inl z) (fun _ z => z) fun _ _ _ e => e⟩
  empt := r.empt
  disj := r.disj
  zs := fun a z => z.elim (r.zs a) fun q => (ht a q).1
  ss := r.ss
  nz := fun a z => ⟨fun q => q.elim (r.nz a z).1 fun q => (ht a q).2.2 z, (r.nz a z).2⟩
theorem Tm.out {Z S : AS} {H : Hp} {FS : Nat → AS} {ks : List Bool} {ds : List D} {vs : List V} {B : Nat → AS} (a : ArgR G Z S H FS ks ds vs B) (x : Addr) (t : Tm ks B x) : (∃ o, H x = some o) ∧ ¬ Z x ∧ ¬ S x ∧ ¬ Own FS x := by
  obtain ⟨j, hk, hb⟩ := t
  have hj : j < ks.length := (List.getElem?_eq_some_iff.mp hk).1
  have hd : j < ds.length := by rw [← a.l2]; exact hj
  have hv : j < vs.length := by rw [← a.l1]; exact hd
  have q := a.rep j ds[j] vs[j] false (by simp [hd]) (by simp [hv]) hk
  rw [if_neg Bool.false_ne_true] at q
  exact ⟨q.1.own x hb, q.2 x hb⟩
theorem sz1000 {n : Nat} (h : n ≤ 1000) : n ≤ sizeLine := Nat.le_trans h (by decide)
/-- (a, b, ..) -/
theorem rd_tup {ks : List Bool} {qt : Bool} {fa : DS → Option EA} {tr : TA} (ha : ∀ σ H Q, rdA G W ks qt fa σ H Q → tr σ H Q) : ∀ σ H Q, rdE G W false qt (evTup ks fa) σ H Q → tTup tr σ H Q := by
  rintro σ H Q ⟨δ, Z, S, FS, sr, ⟨w, hf⟩, ok, ex⟩
  unfold evTup at hf ok ex
  refine ha σ H _ ⟨δ, Z, S, FS, sr, ?_, fun ds δ' h vs H' Z' FS' B p => ?_, fun x δ' h => ?_⟩
  · cases q : fa δ with
    | none => rw [q] at hf; cases hf
    | some w => exact ⟨w, rfl⟩
  · rw [h] at hf ok
    simp only at hf ok
    by_cases hc : (capOk ks ds && decide (ds.length ≤ 1000)) = true
    · rw [if_pos hc] at ok
      rw [Bool.and_eq_true, decide_eq_true_eq] at hc
      refine ⟨by rw [← p.ar.l1]; exact sz1000 hc.2, fun a hn => ?_⟩
      have cs := caps p.ar hc.1
      have tm := fun x t => Tm.out p.ar x t
      refine ok _ δ' rfl (.ref a) _ (fun x => (Z' x ∨ Tm ks B x) ∨ x = a) FS' S0 ⟨?_, ?_, ?_, fun q => ?_⟩
      · exact (p.sr.more fun x t => ⟨(tm x t).1, (tm x t).2.2⟩).grow (same_upd hn) (fun _ z => .inl z) fun x z => z.imp id fun q => by subst q; exact ⟨hn, _, upd_same⟩
      · refine (p.st.trans ⟨fun x o e _ => same_upd hn x o e, fun x o e => ⟨o, same_upd hn x o e⟩, fun x z => .inl (.inl z), fun x z => ?_, fun x z => .inl ?_⟩)
        · rcases z with (z | z) | z
          · exact .inl z
          · exact .inr (.inl (.inr z))
          · subst z; exact .inr (.inr hn)
        · exact z.elim .inl fun q => q.elim
      · rw [if_neg Bool.false_ne_true]
        refine ⟨.fz (.tup (.inl ⟨.inr rfl, .inl upd_same⟩) (by rw [List.length_map]; exact p.ar.l1) fun j d v e1 e2 => (cs j d v e1 e2).mono (fun _ z => .inl z) fun x _ o e => same_upd hn x o e) fun _ z => z, fun x z => z.elim⟩
      · obtain ⟨b, c⟩ := p.qq q
        exact ⟨b, c.trans (same_upd hn)⟩
    · rw [if_neg hc] at hf; cases hf
  · rw [h] at ex
    exact ex x δ' rfl
/-- [a, b, ..]: its items frozen -/
theorem rd_lst {ks : List Bool} {qt : Bool} {fa : DS → Option EA} {tr : TA} (ha : ∀ σ H Q, rdA G W ks qt fa σ H Q → tr σ H Q) : ∀ σ H Q, rdE G W false qt (evLst ks fa) σ H Q → tLst tr σ H Q := by
  rintro σ H Q ⟨δ, Z, S, FS, sr, ⟨w, hf⟩, ok, ex⟩
  unfold evLst at hf ok ex
  refine ha σ H _ ⟨δ, Z, S, FS, sr, ?_, fun ds δ' h vs H' Z' FS' B p => ?_, fun x δ' h => ?_⟩
  · cases q : fa δ with
    | none => rw [q] at hf; cases hf
    | some w => exact ⟨w, rfl⟩
  · rw [h] at hf ok
    simp only at hf ok
    by_cases hc : (capOk ks ds && decide (ds.length ≤ 1000)) = true
    · rw [if_pos hc] at ok
      rw [Bool.and_eq_true, decide_eq_true_eq] at hc
      refine ⟨by rw [← p.ar.l1]; exact sz1000 hc.2, fun a hn => ?_⟩
      have cs := caps p.ar hc.1
      have tm := fun x t => Tm.out p.ar x t
      refine ok _ δ' rfl (.ref a) _ (fun x => Z' x ∨ Tm ks B x) FS' (fun x => x = a) ⟨?_, ?_, ?_, fun q => ?_⟩
      · exact (p.sr.more fun x t => ⟨(tm x t).1, (tm x t).2.2⟩).same (same_upd hn)
      · refine (p.st.trans ⟨fun x o e _ => same_upd hn x o e, fun x o e => ⟨o, same_upd hn x o e⟩, fun x z => .inl z, fun x z => ?_, fun x z => ?_⟩)
        · rcases z with z | z
          · exact .inl z
          · exact .inr (.inl (.inr z))
        · rcases z with z | z
          · exact .inl (.inl z)
          · subst z; exact .inr hn
      · rw [if_neg Bool.false_ne_true]
        refine ⟨.lo upd_same (by rw [List.length_map]; exact p.ar.l1) (fun j d v e1 e2 => (cs j d v e1 e2).same (same_upd hn)) fun _ => Iff.rfl, fun x z => ?_⟩
        subst z
        refine ⟨fun q => ?_, fun q => ?_, fun q => ?_⟩
        · rcases q with q | q
          · obtain ⟨o, e⟩ := p.sr.zs x q; rw [hn] at e; cases e
          · obtain ⟨o, e⟩ := (tm x q).1; rw [hn] at e; cases e
        · obtain ⟨o, e⟩ := p.sr.ss x q; rw [hn] at e; cases e
        · obtain ⟨o, e⟩ := p.sr.own x q; rw [hn] at e; cases e
      · obtain ⟨b, c⟩ := p.qq q
        exact ⟨b, c.trans (same_upd hn)⟩
    · rw [if_neg hc] at hf; cases hf
  · rw [h] at ex
    exact ex x δ' rfl

/-! ### tests and ways -/
abbrev EB := RR Bool × DS
structure PostB (G : GC) (S : Nat → AS) (qt : Bool) (σ : St) (H : Hp) (Z : AS) (FS : Nat → AS) (δ' : DS) (H' : Hp) (Z' : AS) (FS' : Nat → AS) : Prop where
  sr : SR G Z' S H' δ' σ FS'
  st : Step H Z (Own FS) H' Z' (Own FS')
  qq : qt = true → FS' = FS ∧ Same H H'
def rdT (G : GC) (W : WX) (qt : Bool) (f : DS → Option EB) : TT := fun σ H Q => ∃ δ Z S FS, SR G Z S H δ σ FS ∧ (∃ r, f δ = some r) ∧
  (∀ b δ', f δ = some (.ok b, δ') → ∀ H' Z' FS', PostB G S qt σ H Z FS δ' H' Z' FS' → Q b H') ∧
  (∀ x δ', f δ = some (.ex x, δ') → ∀ c dd H' Z' FS', PostX G S σ H Z FS x δ' c dd H' Z' FS' → W c dd σ H')
/-- what an expression leaves, its value dropped -/
theorem PostE.b {S : Nat → AS} {vw qt : Bool} {σ : St} {H : Hp} {Z : AS} {FS : Nat → AS} {d : D} {δ' : DS} {v : V} {H' : Hp} {Z' : AS} {FS' : Nat → AS} {A : AS} (p : PostE G S vw qt σ H Z FS d δ' v H' Z' FS' A) : PostB G S qt σ H Z FS δ' H' Z' FS' :=
  ⟨p.sr, p.st.sub fun _ z => .inl z, p.qq⟩
theorem PostE.rep {S : Nat → AS} {vw qt : Bool} {σ : St} {H : Hp} {Z : AS} {FS : Nat → AS} {d : D} {δ' : DS} {v : V} {H' : Hp} {Z' : AS} {FS' : Nat → AS} {A : AS} (p : PostE G S vw qt σ H Z FS d δ' v H' Z' FS' A) : Rep G Z' (Own S) H' d v A := by
  have q := p.vl
  split at q
  · exact q.1
  · exact q.1.s0
/-- b, then more -/
theorem PostB.thenB {S : Nat → AS} {q1 q2 : Bool} {σ : St} {H H1 H2 : Hp} {Z Z1 Z2 : AS} {FS FS1 FS2 : Nat → AS} {δ1 δ2 : DS} (a : PostB G S q1 σ H Z FS δ1 H1 Z1 FS1) (b : PostB G S q2 σ H1 Z1 FS1 δ2 H2 Z2 FS2) : PostB G S (q1 && q2) σ H Z FS δ2 H2 Z2 FS2 :=
  ⟨b.sr, a.st.trans b.st, fun h => by
    obtain ⟨h1, h2⟩ := Bool.and_eq_true_iff.mp h
    obtain ⟨a2, a3⟩ := a.qq h1
    obtain ⟨b2, b3⟩ := b.qq h2
    exact ⟨b2.trans a2, a3.trans b3⟩⟩
theorem PostB.thenE {S : Nat → AS} {q1 q2 vw : Bool} {σ : St} {H H1 H2 : Hp} {Z Z1 Z2 : AS} {FS FS1 FS2 : Nat → AS} {δ1 δ2 : DS} {d : D} {v : V} {A : AS} (a : PostB G S q1 σ H Z FS δ1 H1 Z1 FS1) (b : PostE G S vw q2 σ H1 Z1 FS1 d δ2 v H2 Z2 FS2 A) : PostE G S vw (q1 && q2) σ H Z FS d δ2 v H2 Z2 FS2 A :=
  ⟨b.sr, a.st.trans b.st, b.vl, fun h => by
    obtain ⟨h1, h2⟩ := Bool.and_eq_true_iff.mp h
    obtain ⟨a2, a3⟩ := a.qq h1
    obtain ⟨b2, b3⟩ := b.qq h2
    exact ⟨b2.trans a2, a3.trans b3⟩⟩
theorem PostB.thenX {S : Nat → AS} {q1 : Bool} {σ : St} {H H1 H2 : Hp} {Z Z1 Z2 : AS} {FS FS1 FS2 : Nat → AS} {δ1 δ2 : DS} {x : Xc} {c : Value} {dd : Option Addr} (a : PostB G S q1 σ H Z FS δ1 H1 Z1 FS1) (b : PostX G S σ H1 Z1 FS1 x δ2 c dd H2 Z2 FS2) : PostX G S σ H Z FS x δ2 c dd H2 Z2 FS2 :=
  ⟨b.sr, a.st.trans b.st, b.xr⟩
theorem PostB.weak {S : Nat → AS} {q1 q2 : Bool} {σ : St} {H H1 : Hp} {Z Z1 : AS} {FS FS1 : Nat → AS} {δ1 : DS} (a : PostB G S q1 σ H Z FS δ1 H1 Z1 FS1) (h : q2 = true → q1 = true) : PostB G S q2 σ H Z FS δ1 H1 Z1 FS1 := ⟨a.sr, a.st, fun q => a.qq (h q)⟩
theorem PostE.weak {S : Nat → AS} {q1 q2 vw : Bool} {σ : St} {H H1 : Hp} {Z Z1 : AS} {FS FS1 : Nat → AS} {δ1 : DS} {d : D} {v : V} {A : AS} (a : PostE G S vw q1 σ H Z FS d δ1 v H1 Z1 FS1 A) (h : q2 = true → q1 = true) : PostE G S vw q2 σ H Z FS d δ1 v H1 Z1 FS1 A := ⟨a.sr, a.st, a.vl, fun q => a.qq (h q)⟩
theorem PostE.opaque {S : Nat → AS} {q1 vw : Bool} {σ : St} {H H1 : Hp} {Z Z1 : AS} {FS FS1 : Nat → AS} {δ1 : DS} {d : D} {v : V} {A : AS} (a : PostE G S vw q1 σ H Z FS d δ1 v H1 Z1 FS1 A) (h : vw = true → isF d = true) : ∃ A', PostE G S false q1 σ H Z FS d δ1 v H1 Z1 FS1 A' := by
  cases hv : vw with
  | false => subst hv; exact ⟨A, a⟩
  | true =>
    have vl := a.vl
    rw [hv, if_pos rfl] at vl
    obtain ⟨rf, nA⟩ := vl.1.frozen (h hv)
    refine ⟨S0, a.sr, a.st.sub fun x z => z.elim .inl fun q => q.elim, ?_, a.qq⟩
    rw [if_neg Bool.false_ne_true]
    exact ⟨.fz rf fun _ z => z, fun x z => z.elim⟩
end
end PD
/-! P, part 6: tests, ways, chains, methods: the readings. -/
namespace PD
open PySem L2

def truD : D → Option Bool
  | .non => some false
  | .bl b => some b
  | .int i => some (i != 0)
  | .str z => if z.length ≤ sizeLine then some ((z.length : Int) != 0) else none
  | .lst _ xs => some (!xs.isEmpty)
  | .tup xs => some (!xs.isEmpty)
  | .dic .o xs => some (!xs.isEmpty)
  | .dic .oo xs => some (!xs.isEmpty)
  | _ => none
def blD : D → Option Bool
  | .bl b => some b
  | _ => none
def evTr (g : D → Option Bool) (f : DS → Option ER) : DS → Option EB := fun δ => match f δ with
  | none => none
  | some (.ex x, δ') => some (.ex x, δ')
  | some (.ok d, δ') => match g d with
    | none => none
    | some b => some (.ok b, δ')
def evNotT (f : DS → Option EB) : DS → Option EB := fun δ => match f δ with
  | none => none
  | some (.ex x, δ') => some (.ex x, δ')
  | some (.ok b, δ') => some (.ok (!b), δ')
def evAndT (f g : DS → Option EB) : DS → Option EB := fun δ => match f δ with
  | none => none
  | some (.ex x, δ') => some (.ex x, δ')
  | some (.ok b, δ') => if b = true then g δ' else some (.ok false, δ')
def evOrT (f g : DS → Option EB) : DS → Option EB := fun δ => match f δ with
  | none => none
  | some (.ex x, δ') => some (.ex x, δ')
  | some (.ok b, δ') => if b = true then some (.ok true, δ') else g δ'
/-- as values: all but the last are truth values -/
def evAndV (f g : DS → Option ER) : DS → Option ER := fun δ => match f δ with
  | none => none
  | some (.ex x, δ') => some (.ex x, δ')
  | some (.ok d, δ') => match blD d with
    | none => none
    | some b => if b = true then g δ' else some (.ok (.bl false), δ')
def evOrV (f g : DS → Option ER) : DS → Option ER := fun δ => match f δ with
  | none => none
  | some (.ex x, δ') => some (.ex x, δ')
  | some (.ok d, δ') => match blD d with
    | none => none
    | some b => if b = true then some (.ok (.bl true), δ') else g δ'
def evNotV (f : DS → Option ER) : DS → Option ER := fun δ => match f δ with
  | none => none
  | some (.ex x, δ') => some (.ex x, δ')
  | some (.ok d, δ') => match blD d with
    | none => none
    | some b => some (.ok (.bl (!b)), δ')
/-- a value that is to be kept: a view must be frozen -/
def evOpq (vw : Bool) (f : DS → Option ER) : DS → Option ER := fun δ => match f δ with
  | none => none
  | some (.ex x, δ') => some (.ex x, δ')
  | some (.ok d, δ') => if vw && !isF d then none else some (.ok d, δ')
def evIf (t : DS → Option EB) (f g : DS → Option ER) : DS → Option ER := fun δ => match t δ with
  | none => none
  | some (.ex x, δ') => some (.ex x, δ')
  | some (.ok b, δ') => if b = true then f δ' else g δ'
def evGuard (c : D → Bool) (f : DS → Option ER) : DS → Option ER := fun δ => match f δ with
  | none => none
  | some (.ex x, δ') => some (.ex x, δ')
  | some (.ok d, δ') => if c d then some (.ok d, δ') else none

section
variable {G : GC} {W : WX} {X : Cx}
theorem truV_of {Z S : AS} {H : Hp} {d : D} {v : V} {A : AS} {b : Bool} (r : Rep G Z S H d v A) (h : truD d = some b) : TruV G.K v H b := by
  cases d with
  | non => rw [r.nonV]; cases h; rfl
  | bl k => rw [r.blV]; cases h; rfl
  | int i => rw [r.intV]; cases h; rfl
  | str z =>
    rw [r.strV]
    have h' : (if z.length ≤ sizeLine then some ((z.length : Int) != 0) else none) = some b := h
    by_cases hz : z.length ≤ sizeLine
    · rw [if_pos hz] at h'; cases h'; exact ⟨hz, rfl⟩
    · rw [if_neg hz] at h'; cases h'
  | lst m xs =>
    obtain ⟨a, vs, rfl, sq, hl, _⟩ := r.lstV
    cases h
    refine .inl ⟨vs, sq, ?_⟩
    cases xs <;> cases vs <;> first | rfl | simp at hl
  | tup xs =>
    obtain ⟨a, vs, rfl, sq, hl, _⟩ := r.tupV
    cases h
    refine .inr (.inl ⟨vs, sq, ?_⟩)
    cases xs <;> cases vs <;> first | rfl | simp at hl
  | dic m xs =>
    have fin : ∀ {a : Addr} {ws : List (Key × V)}, H a = some (.dK ws) → xs.map (·.1) = ws.map (·.1) → TruV G.K (.ref a) H (!xs.isEmpty) := fun {a ws} e hl => by
      refine .inr (.inr ⟨ws, e, ?_⟩)
      cases xs <;> cases ws <;> first | rfl | simp at hl
    cases m with
    | o =>
      cases h
      cases r with
      | fz h hA => cases h
      | dco h hl he hA => exact fin h hl
    | oo =>
      cases h
      cases r with
      | fz h hA => cases h
      | dcoo B h hl he hd hn ho hA => exact fin h hl
    | _ => cases h
  | _ => cases h
theorem some_of {α β : Type} {o : Option α} {f : α → Option β} {b : β} (h : (match o with | none => none | some a => f a) = some b) : ∃ a, o = some a ∧ f a = some b := by
  cases o with
  | none => cases h
  | some a => exact ⟨a, rfl, h⟩
/-- a value's truth as a test -/
theorem rd_tru {vw qt : Bool} {f : DS → Option ER} {te : TE} (ha : ∀ σ H Q, rdE G W vw qt f σ H Q → te σ H Q) : ∀ σ H Q, rdT G W qt (evTr truD f) σ H Q → te σ H fun x H' => ∃ k, TruV G.K x H' k ∧ Q k H' := by
  rintro σ H Q ⟨δ, Z, S, FS, sr, ⟨w, hf⟩, ok, ex⟩
  unfold evTr at hf ok ex
  refine ha σ H _ ⟨δ, Z, S, FS, sr, ?_, fun d δ' h v H' Z' FS' A p => ?_, fun x δ' h => ?_⟩
  · cases q : f δ with
    | none => rw [q] at hf; cases hf
    | some w => exact ⟨w, rfl⟩
  · rw [h] at hf ok
    simp only at hf ok
    cases e : truD d with
    | none => rw [e] at hf; cases hf
    | some b =>
      rw [e] at ok
      exact ⟨b, truV_of p.rep e, ok b δ' rfl H' Z' FS' p.b⟩
  · rw [h] at ex
    exact ex x δ' rfl
theorem rd_trb {vw qt : Bool} {f : DS → Option ER} {te : TE} (ha : ∀ σ H Q, rdE G W vw qt f σ H Q → te σ H Q) : ∀ σ H Q, rdT G W qt (evTr blD f) σ H Q → te σ H fun x H' => ∃ k, x = .bl k ∧ Q k H' := by
  rintro σ H Q ⟨δ, Z, S, FS, sr, ⟨w, hf⟩, ok, ex⟩
  unfold evTr at hf ok ex
  refine ha σ H _ ⟨δ, Z, S, FS, sr, ?_, fun d δ' h v H' Z' FS' A p => ?_, fun x δ' h => ?_⟩
  · cases q : f δ with
    | none => rw [q] at hf; cases hf
    | some w => exact ⟨w, rfl⟩
  · rw [h] at hf ok
    simp only at hf ok
    cases d with
    | bl b => exact ⟨b, p.rep.blV, ok b δ' rfl H' Z' FS' p.b⟩
    | _ => cases hf
  · rw [h] at ex
    exact ex x δ' rfl
theorem rd_notT {qt : Bool} {f : DS → Option EB} {tt : TT} (ha : ∀ σ H Q, rdT G W qt f σ H Q → tt σ H Q) : ∀ σ H Q, rdT G W qt (evNotT f) σ H Q → tNot tt σ H Q := by
  rintro σ H Q ⟨δ, Z, S, FS, sr, ⟨w, hf⟩, ok, ex⟩
  unfold evNotT at hf ok ex
  refine ha σ H _ ⟨δ, Z, S, FS, sr, ?_, fun d δ' h H' Z' FS' p => ?_, fun x δ' h => ?_⟩
  · cases q : f δ with
    | none => rw [q] at hf; cases hf
    | some w => exact ⟨w, rfl⟩
  · rw [h] at ok
    exact ok _ δ' rfl H' Z' FS' p
  · rw [h] at ex
    exact ex x δ' rfl
theorem rd_andT {q1 q2 : Bool} {f g : DS → Option EB} {ta tb : TT} (ha : ∀ σ H Q, rdT G W q1 f σ H Q → ta σ H Q) (hb : ∀ σ H Q, rdT G W q2 g σ H Q → tb σ H Q) : ∀ σ H Q, rdT G W (q1 && q2) (evAndT f g) σ H Q → tAnd ta tb σ H Q := by
  rintro σ H Q ⟨δ, Z, S, FS, sr, ⟨w, hf⟩, ok, ex⟩
  unfold evAndT at hf ok ex
  refine ha σ H _ ⟨δ, Z, S, FS, sr, ?_, fun b δ' h H' Z' FS' p => ?_, fun x δ' h => ?_⟩
  · cases q : f δ with
    | none => rw [q] at hf; cases hf
    | some w => exact ⟨w, rfl⟩
  · rw [h] at hf ok ex
    simp only at hf ok ex
    cases b with
    | true =>
      rw [if_pos rfl]
      rw [if_pos rfl] at hf ok ex
      exact hb σ H' _ ⟨δ', Z', S, FS', p.sr, ⟨w, hf⟩, fun b δ2 h2 H2 Z2 FS2 p2 => ok b δ2 h2 H2 Z2 FS2 (p.thenB p2), fun x δ2 h2 c dd H2 Z2 FS2 p2 => ex x δ2 h2 c dd H2 Z2 FS2 (p.thenX p2)⟩
    | false =>
      rw [if_neg Bool.false_ne_true]
      rw [if_neg Bool.false_ne_true] at ok
      exact ok false δ' rfl H' Z' FS' (p.weak fun h => (Bool.and_eq_true_iff.mp h).1)
  · rw [h] at ex
    exact ex x δ' rfl
theorem rd_orT {q1 q2 : Bool} {f g : DS → Option EB} {ta tb : TT} (ha : ∀ σ H Q, rdT G W q1 f σ H Q → ta σ H Q) (hb : ∀ σ H Q, rdT G W q2 g σ H Q → tb σ H Q) : ∀ σ H Q, rdT G W (q1 && q2) (evOrT f g) σ H Q → tOr ta tb σ H Q := by
  rintro σ H Q ⟨δ, Z, S, FS, sr, ⟨w, hf⟩, ok, ex⟩
  unfold evOrT at hf ok ex
  refine ha σ H _ ⟨δ, Z, S, FS, sr, ?_, fun b δ' h H' Z' FS' p => ?_, fun x δ' h => ?_⟩
  · cases q : f δ with
    | none => rw [q] at hf; cases hf
    | some w => exact ⟨w, rfl⟩
  · rw [h] at hf ok ex
    simp only at hf ok ex
    cases b with
    | false =>
      rw [if_neg Bool.false_ne_true]
      rw [if_neg Bool.false_ne_true] at hf ok ex
      exact hb σ H' _ ⟨δ', Z', S, FS', p.sr, ⟨w, hf⟩, fun b δ2 h2 H2 Z2 FS2 p2 => ok b δ2 h2 H2 Z2 FS2 (p.thenB p2), fun x δ2 h2 c dd H2 Z2 FS2 p2 => ex x δ2 h2 c dd H2 Z2 FS2 (p.thenX p2)⟩
    | true =>
      rw [if_pos rfl]
      rw [if_pos rfl] at ok
      exact ok true δ' rfl H' Z' FS' (p.weak fun h => (Bool.and_eq_true_iff.mp h).1)
  · rw [h] at ex
    exact ex x δ' rfl
/-- a value that is kept -/
theorem rd_opq {vw qt : Bool} {f : DS → Option ER} {te : TE} (ha : ∀ σ H Q, rdE G W vw qt f σ H Q → te σ H Q) : ∀ σ H Q, rdE G W false qt (evOpq vw f) σ H Q → te σ H Q := by
  rintro σ H Q ⟨δ, Z, S, FS, sr, ⟨w, hf⟩, ok, ex⟩
  unfold evOpq at hf ok ex
  refine ha σ H _ ⟨δ, Z, S, FS, sr, ?_, fun d δ' h v H' Z' FS' A p => ?_, fun x δ' h => ?_⟩
  · cases q : f δ with
    | none => rw [q] at hf; cases hf
    | some w => exact ⟨w, rfl⟩
  · rw [h] at hf ok
    simp only at hf ok
    by_cases hc : (vw && !isF d) = true
    · rw [if_pos hc] at hf; cases hf
    · rw [if_neg hc] at ok
      obtain ⟨A', p'⟩ := p.opaque fun hv => by
        cases q : isF d with
        | true => rfl
        | false => exact absurd (by simp [hv, q]) hc
      exact ok d δ' rfl v H' Z' FS' A' p'
  · rw [h] at ex
    exact ex x δ' rfl
theorem rd_if {q1 q2 q3 : Bool} {t : DS → Option EB} {f g : DS → Option ER} {tt : TT} {ta tb : TE} (ht : ∀ σ H Q, rdT G W q1 t σ H Q → tt σ H Q) (ha : ∀ σ H Q, rdE G W false q2 f σ H Q → ta σ H Q) (hb : ∀ σ H Q, rdE G W false q3 g σ H Q → tb σ H Q) :
    ∀ σ H Q, rdE G W false (q1 && q2 && q3) (evIf t f g) σ H Q → tIf tt ta tb σ H Q := by
  rintro σ H Q ⟨δ, Z, S, FS, sr, ⟨w, hf⟩, ok, ex⟩
  unfold evIf at hf ok ex
  refine ht σ H _ ⟨δ, Z, S, FS, sr, ?_, fun b δ' h H' Z' FS' p => ?_, fun x δ' h => ?_⟩
  · cases q : t δ with
    | none => rw [q] at hf; cases hf
    | some w => exact ⟨w, rfl⟩
  · rw [h] at hf ok ex
    simp only at hf ok ex
    cases b with
    | true =>
      rw [if_pos rfl]
      rw [if_pos rfl] at hf ok ex
      exact ha σ H' _ ⟨δ', Z', S, FS', p.sr, ⟨w, hf⟩, fun d δ2 h2 v H2 Z2 FS2 A p2 => ok d δ2 h2 v H2 Z2 FS2 A ((p.thenE p2).weak fun h => by simp only [Bool.and_eq_true] at h ⊢; exact ⟨h.1.1, h.1.2⟩), fun x δ2 h2 c dd H2 Z2 FS2 p2 => ex x δ2 h2 c dd H2 Z2 FS2 (p.thenX p2)⟩
    | false =>
      rw [if_neg Bool.false_ne_true]
      rw [if_neg Bool.false_ne_true] at hf ok ex
      exact hb σ H' _ ⟨δ', Z', S, FS', p.sr, ⟨w, hf⟩, fun d δ2 h2 v H2 Z2 FS2 A p2 => ok d δ2 h2 v H2 Z2 FS2 A ((p.thenE p2).weak fun h => by simp only [Bool.and_eq_true] at h ⊢; exact ⟨h.1.1, h.2⟩), fun x δ2 h2 c dd H2 Z2 FS2 p2 => ex x δ2 h2 c dd H2 Z2 FS2 (p.thenX p2)⟩
  · rw [h] at ex
    exact ex x δ' rfl
theorem rep_bl (Z : AS) (H : Hp) (b : Bool) : Rep G Z S0 H (.bl b) (.bl b) S0 := .fz (.bl b) fun _ z => z
theorem PostB.bl {S : Nat → AS} {q : Bool} {σ : St} {H H1 : Hp} {Z Z1 : AS} {FS FS1 : Nat → AS} {δ1 : DS} (a : PostB G S q σ H Z FS δ1 H1 Z1 FS1) (b : Bool) : PostE G S false q σ H Z FS (.bl b) δ1 (.bl b) H1 Z1 FS1 S0 := by
  refine ⟨a.sr, a.st.sub fun x z => z.elim id fun q => q.elim, ?_, a.qq⟩
  rw [if_neg Bool.false_ne_true]
  exact ⟨rep_bl _ _ b, fun x z => z.elim⟩
theorem rd_andV {v1 q1 q2 : Bool} {f g : DS → Option ER} {ta tb : TE} (ha : ∀ σ H Q, rdE G W v1 q1 f σ H Q → ta σ H Q) (hb : ∀ σ H Q, rdE G W false q2 g σ H Q → tb σ H Q) : ∀ σ H Q, rdE G W false (q1 && q2) (evAndV f g) σ H Q → tAndV ta tb σ H Q := by
  rintro σ H Q ⟨δ, Z, S, FS, sr, ⟨w, hf⟩, ok, ex⟩
  unfold evAndV at hf ok ex
  refine ha σ H _ ⟨δ, Z, S, FS, sr, ?_, fun d δ' h v H' Z' FS' A p => ?_, fun x δ' h => ?_⟩
  · cases q : f δ with
    | none => rw [q] at hf; cases hf
    | some w => exact ⟨w, rfl⟩
  · rw [h] at hf ok ex
    simp only at hf ok ex
    cases d with
    | bl b =>
      refine ⟨b, p.rep.blV, ?_⟩
      simp only [blD] at hf ok ex
      cases b with
      | true =>
        rw [if_pos rfl]
        rw [if_pos rfl] at hf ok ex
        exact hb σ H' _ ⟨δ', Z', S, FS', p.sr, ⟨w, hf⟩, fun d δ2 h2 v H2 Z2 FS2 A p2 => ok d δ2 h2 v H2 Z2 FS2 A (p.b.thenE p2), fun x δ2 h2 c dd H2 Z2 FS2 p2 => ex x δ2 h2 c dd H2 Z2 FS2 (p.b.thenX p2)⟩
      | false =>
        rw [if_neg Bool.false_ne_true]
        rw [if_neg Bool.false_ne_true] at ok
        exact ok _ δ' rfl _ H' Z' FS' _ ((p.b.bl false).weak fun h => (Bool.and_eq_true_iff.mp h).1)
    | _ => cases hf
  · rw [h] at ex
    exact ex x δ' rfl
theorem rd_orV {v1 q1 q2 : Bool} {f g : DS → Option ER} {ta tb : TE} (ha : ∀ σ H Q, rdE G W v1 q1 f σ H Q → ta σ H Q) (hb : ∀ σ H Q, rdE G W false q2 g σ H Q → tb σ H Q) : ∀ σ H Q, rdE G W false (q1 && q2) (evOrV f g) σ H Q → tOrV ta tb σ H Q := by
  rintro σ H Q ⟨δ, Z, S, FS, sr, ⟨w, hf⟩, ok, ex⟩
  unfold evOrV at hf ok ex
  refine ha σ H _ ⟨δ, Z, S, FS, sr, ?_, fun d δ' h v H' Z' FS' A p => ?_, fun x δ' h => ?_⟩
  · cases q : f δ with
    | none => rw [q] at hf; cases hf
    | some w => exact ⟨w, rfl⟩
  · rw [h] at hf ok ex
    simp only at hf ok ex
    cases d with
    | bl b =>
      refine ⟨b, p.rep.blV, ?_⟩
      simp only [blD] at hf ok ex
      cases b with
      | false =>
        rw [if_neg Bool.false_ne_true]
        rw [if_neg Bool.false_ne_true] at hf ok ex
        exact hb σ H' _ ⟨δ', Z', S, FS', p.sr, ⟨w, hf⟩, fun d δ2 h2 v H2 Z2 FS2 A p2 => ok d δ2 h2 v H2 Z2 FS2 A (p.b.thenE p2), fun x δ2 h2 c dd H2 Z2 FS2 p2 => ex x δ2 h2 c dd H2 Z2 FS2 (p.b.thenX p2)⟩
      | true =>
        rw [if_pos rfl]
        rw [if_pos rfl] at ok
        exact ok _ δ' rfl _ H' Z' FS' _ ((p.b.bl true).weak fun h => (Bool.and_eq_true_iff.mp h).1)
    | _ => cases hf
  · rw [h] at ex
    exact ex x δ' rfl
theorem rd_notV {v1 q1 : Bool} {f : DS → Option ER} {ta : TE} (ha : ∀ σ H Q, rdE G W v1 q1 f σ H Q → ta σ H Q) : ∀ σ H Q, rdE G W false q1 (evNotV f) σ H Q → tNotV ta σ H Q := by
  rintro σ H Q ⟨δ, Z, S, FS, sr, ⟨w, hf⟩, ok, ex⟩
  unfold evNotV at hf ok ex
  refine ha σ H _ ⟨δ, Z, S, FS, sr, ?_, fun d δ' h v H' Z' FS' A p => ?_, fun x δ' h => ?_⟩
  · cases q : f δ with
    | none => rw [q] at hf; cases hf
    | some w => exact ⟨w, rfl⟩
  · rw [h] at hf ok
    simp only at hf ok
    cases d with
    | bl b => exact ⟨b, p.rep.blV, ok _ δ' rfl _ H' Z' FS' _ (p.b.bl (!b))⟩
    | _ => cases hf
  · rw [h] at ex
    exact ex x δ' rfl
/-- a value with a fact of it -/
theorem rd_guard {vw qt : Bool} {c : D → Bool} {P : V → Hp → Prop} {f : DS → Option ER} {te : TE} (hP : ∀ Z S H d v A, Rep G Z S H d v A → c d = true → P v H) (ha : ∀ σ H Q, rdE G W vw qt f σ H Q → te σ H Q) :
    ∀ σ H Q, rdE G W vw qt (evGuard c f) σ H Q → te σ H fun x H1 => P x H1 ∧ Q x H1 := by
  rintro σ H Q ⟨δ, Z, S, FS, sr, ⟨w, hf⟩, ok, ex⟩
  unfold evGuard at hf ok ex
  refine ha σ H _ ⟨δ, Z, S, FS, sr, ?_, fun d δ' h v H' Z' FS' A p => ?_, fun x δ' h => ?_⟩
  · cases q : f δ with
    | none => rw [q] at hf; cases hf
    | some w => exact ⟨w, rfl⟩
  · rw [h] at hf ok
    simp only at hf ok
    by_cases hc : c d = true
    · rw [if_pos hc] at ok
      exact ⟨hP Z' (Own S) H' d v A p.rep hc, ok d δ' rfl v H' Z' FS' A p⟩
    · rw [if_neg hc] at hf; cases hf
  · rw [h] at ex
    exact ex x δ' rfl
end
end PD
/-! P, part 7: statements. -/
namespace PD
open PySem L2

inductive Out where
  | nx | bk | ct
  | rt (d : D)
  | ex (x : Xc)
abbrev ES := Out × DS

/-- the slots of pn hold what they held -/
def Pin (pn : List Nat) (σ σ' : St) : Prop := σ'.length = σ.length ∧ ∀ i ∈ pn, σ'[i]? = σ[i]?
theorem Pin.refl (pn : List Nat) (σ : St) : Pin pn σ σ := ⟨rfl, fun _ _ => rfl⟩
theorem Pin.trans {pn : List Nat} {a b c : St} (h : Pin pn a b) (k : Pin pn b c) : Pin pn a c := ⟨k.1.trans h.1, fun i m => (k.2 i m).trans (h.2 i m)⟩
structure PostS (G : GC) (S : Nat → AS) (pn : List Nat) (σ : St) (H : Hp) (Z : AS) (FS : Nat → AS) (δ' : DS) (σ' : St) (H' : Hp) (Z' : AS) (FS' : Nat → AS) : Prop where
  sr : SR G Z' S H' δ' σ' FS'
  st : Step H Z (Own FS) H' Z' (Own FS')
  pn : Pin pn σ σ'
structure PostR (G : GC) (S : Nat → AS) (pn : List Nat) (σ : St) (H : Hp) (Z : AS) (FS : Nat → AS) (d : D) (δ' : DS) (v : V) (σ' : St) (H' : Hp) (Z' : AS) (FS' : Nat → AS) (A : AS) : Prop where
  sr : SR G Z' S H' δ' σ' FS'
  st : Step H Z (Own FS) H' Z' (fun x => Own FS' x ∨ A x)
  vl : Rep G Z' S0 H' d v A ∧ ∀ x, A x → ¬ Z' x ∧ ¬ Own S x ∧ ¬ Own FS' x
  pn : Pin pn σ σ'
structure PostQ (G : GC) (S : Nat → AS) (pn : List Nat) (σ : St) (H : Hp) (Z : AS) (FS : Nat → AS) (x : Xc) (δ' : DS) (c : Value) (dd : Option Addr) (σ' : St) (H' : Hp) (Z' : AS) (FS' : Nat → AS) : Prop where
  sr : SR G Z' S H' δ' σ' FS'
  st : Step H Z (Own FS) H' Z' (Own FS')
  xr : XR G Z' H' x c dd
  pn : Pin pn σ σ'
/-- what is wanted behind a statement, by its outcome -/
structure WantS (G : GC) (W : WX) (S : Nat → AS) (pn : List Nat) (D : Ends) (σ : St) (H : Hp) (Z : AS) (FS : Nat → AS) (r : ES) : Prop where
  nx : ∀ δ', r = (.nx, δ') → ∀ σ' H' Z' FS', PostS G S pn σ H Z FS δ' σ' H' Z' FS' → D.nx σ' H'
  bk : ∀ δ', r = (.bk, δ') → ∀ σ' H' Z' FS', PostS G S pn σ H Z FS δ' σ' H' Z' FS' → D.bk σ' H'
  ct : ∀ δ', r = (.ct, δ') → ∀ σ' H' Z' FS', PostS G S pn σ H Z FS δ' σ' H' Z' FS' → D.ct σ' H'
  rt : ∀ d δ', r = (.rt d, δ') → ∀ v σ' H' Z' FS' A, PostR G S pn σ H Z FS d δ' v σ' H' Z' FS' A → D.rt v H'
  ex : ∀ x δ', r = (.ex x, δ') → ∀ c dd σ' H' Z' FS', PostQ G S pn σ H Z FS x δ' c dd σ' H' Z' FS' → W c dd σ' H'
def rdS (G : GC) (W : WX) (n : Nat) (pn : List Nat) (f : DS → Option ES) : TS := fun D σ H => σ.length = n ∧ ∃ δ Z S FS, SR G Z S H δ σ FS ∧ ∃ r, f δ = some r ∧ WantS G W S pn D σ H Z FS r

def evNx : DS → Option ES := fun δ => some (.nx, δ)
def evSeq (f g : DS → Option ES) : DS → Option ES := fun δ => match f δ with
  | some (.nx, δ') => g δ'
  | r => r
def evDrop (f : DS → Option ER) : DS → Option ES := fun δ => match f δ with
  | none => none
  | some (.ex x, δ') => some (.ex x, δ')
  | some (.ok _, δ') => some (.nx, δ')
def evRet (f : DS → Option ER) : DS → Option ES := fun δ => match f δ with
  | none => none
  | some (.ex x, δ') => some (.ex x, δ')
  | some (.ok d, δ') => some (.rt d, δ')
def evAsg (i : Nat) (f : DS → Option ER) : DS → Option ES := fun δ => match f δ with
  | none => none
  | some (.ex x, δ') => some (.ex x, δ')
  | some (.ok d, δ') => some (.nx, δ'.set i (some d))
def evIfS (t : DS → Option EB) (f g : DS → Option ES) : DS → Option ES := fun δ => match t δ with
  | none => none
  | some (.ex x, δ') => some (.ex x, δ')
  | some (.ok b, δ') => if b = true then f δ' else g δ'
def evRetN : DS → Option ES := fun δ => some (.rt .non, δ)
def evBrk : DS → Option ES := fun δ => some (.bk, δ)
def evCnt : DS → Option ES := fun δ => some (.ct, δ)

section
variable {G : GC} {W : WX} {X : Cx} {n : Nat} {pn : List Nat}
theorem PostS.refl {S : Nat → AS} {σ : St} {H : Hp} {Z : AS} {FS : Nat → AS} {δ : DS} (r : SR G Z S H δ σ FS) : PostS G S pn σ H Z FS δ σ H Z FS := ⟨r, Step.refl _ _ _, Pin.refl _ _⟩
theorem PostS.thenS {S : Nat → AS} {σ σ1 σ2 : St} {H H1 H2 : Hp} {Z Z1 Z2 : AS} {FS FS1 FS2 : Nat → AS} {δ1 δ2 : DS} (a : PostS G S pn σ H Z FS δ1 σ1 H1 Z1 FS1) (b : PostS G S pn σ1 H1 Z1 FS1 δ2 σ2 H2 Z2 FS2) : PostS G S pn σ H Z FS δ2 σ2 H2 Z2 FS2 := ⟨b.sr, a.st.trans b.st, a.pn.trans b.pn⟩
theorem PostS.thenR {S : Nat → AS} {σ σ1 σ2 : St} {H H1 H2 : Hp} {Z Z1 Z2 : AS} {FS FS1 FS2 : Nat → AS} {δ1 δ2 : DS} {d : D} {v : V} {A : AS} (a : PostS G S pn σ H Z FS δ1 σ1 H1 Z1 FS1) (b : PostR G S pn σ1 H1 Z1 FS1 d δ2 v σ2 H2 Z2 FS2 A) : PostR G S pn σ H Z FS d δ2 v σ2 H2 Z2 FS2 A := ⟨b.sr, a.st.trans b.st, b.vl, a.pn.trans b.pn⟩
theorem PostS.thenQ {S : Nat → AS} {σ σ1 σ2 : St} {H H1 H2 : Hp} {Z Z1 Z2 : AS} {FS FS1 FS2 : Nat → AS} {δ1 δ2 : DS} {x : Xc} {c : Value} {dd : Option Addr} (a : PostS G S pn σ H Z FS δ1 σ1 H1 Z1 FS1) (b : PostQ G S pn σ1 H1 Z1 FS1 x δ2 c dd σ2 H2 Z2 FS2) : PostQ G S pn σ H Z FS x δ2 c dd σ2 H2 Z2 FS2 := ⟨b.sr, a.st.trans b.st, b.xr, a.pn.trans b.pn⟩
/-- the wants of what follows, seen from ahead -/
theorem WantS.back {S : Nat → AS} {D : Ends} {σ σ1 : St} {H H1 : Hp} {Z Z1 : AS} {FS FS1 : Nat → AS} {δ1 : DS} {r : ES} (w : WantS G W S pn D σ H Z FS r) (a : PostS G S pn σ H Z FS δ1 σ1 H1 Z1 FS1) : WantS G W S pn D σ1 H1 Z1 FS1 r :=
  ⟨fun δ' e σ' H' Z' FS' p => w.nx δ' e σ' H' Z' FS' (a.thenS p), fun δ' e σ' H' Z' FS' p => w.bk δ' e σ' H' Z' FS' (a.thenS p), fun δ' e σ' H' Z' FS' p => w.ct δ' e σ' H' Z' FS' (a.thenS p),
    fun d δ' e v σ' H' Z' FS' A p => w.rt d δ' e v σ' H' Z' FS' A (a.thenR p), fun x δ' e c dd σ' H' Z' FS' p => w.ex x δ' e c dd σ' H' Z' FS' (a.thenQ p)⟩
theorem PostB.s {S : Nat → AS} {q : Bool} {σ : St} {H H' : Hp} {Z Z' : AS} {FS FS' : Nat → AS} {δ' : DS} (p : PostB G S q σ H Z FS δ' H' Z' FS') : PostS G S pn σ H Z FS δ' σ H' Z' FS' := ⟨p.sr, p.st, Pin.refl _ _⟩
theorem PostX.q {S : Nat → AS} {σ : St} {H H' : Hp} {Z Z' : AS} {FS FS' : Nat → AS} {δ' : DS} {x : Xc} {c : Value} {dd : Option Addr} (p : PostX G S σ H Z FS x δ' c dd H' Z' FS') : PostQ G S pn σ H Z FS x δ' c dd σ H' Z' FS' := ⟨p.sr, p.st, p.xr, Pin.refl _ _⟩
theorem rd_nx : ∀ D σ H, rdS G W n pn evNx D σ H → tNext D σ H := by
  rintro D σ H ⟨hn, δ, Z, S, FS, sr, r, hr, w⟩
  cases hr
  exact w.nx δ rfl σ H Z FS (.refl sr)
theorem rd_seq {f g : DS → Option ES} {t u : TS} (ht : ∀ D σ H, rdS G W n pn f D σ H → t D σ H) (hu : ∀ D σ H, rdS G W n pn g D σ H → u D σ H) : ∀ D σ H, rdS G W n pn (evSeq f g) D σ H → tSeq t u D σ H := by
  rintro D σ H ⟨hn, δ, Z, S, FS, sr, r, hr, w⟩
  unfold evSeq at hr
  cases e : f δ with
  | none => rw [e] at hr; cases hr
  | some q =>
    obtain ⟨o, δ1⟩ := q
    rw [e] at hr
    refine ht { D with nx := u D } σ H ⟨hn, δ, Z, S, FS, sr, (o, δ1), e, ?_⟩
    cases o with
    | nx =>
      refine ⟨fun δ' e' σ' H' Z' FS' p => ?_, fun _ e' => (by cases e'), fun _ e' => (by cases e'), fun _ _ e' => (by cases e'), fun _ _ e' => (by cases e')⟩
      cases e'
      exact hu D σ' H' ⟨p.pn.1.trans hn, _, Z', S, FS', p.sr, r, hr, w.back p⟩
    | bk => cases hr; exact ⟨fun _ e' => (by cases e'), w.bk, w.ct, w.rt, w.ex⟩
    | ct => cases hr; exact ⟨fun _ e' => (by cases e'), w.bk, w.ct, w.rt, w.ex⟩
    | rt d => cases hr; exact ⟨fun _ e' => (by cases e'), w.bk, w.ct, w.rt, w.ex⟩
    | ex x => cases hr; exact ⟨fun _ e' => (by cases e'), w.bk, w.ct, w.rt, w.ex⟩
theorem rd_drop {vw qt : Bool} {f : DS → Option ER} {te : TE} (ha : ∀ σ H Q, rdE G W vw qt f σ H Q → te σ H Q) : ∀ D σ H, rdS G W n pn (evDrop f) D σ H → tDrop te D σ H := by
  rintro D σ H ⟨hn, δ, Z, S, FS, sr, r, hr, w⟩
  unfold evDrop at hr
  refine ha σ H _ ⟨δ, Z, S, FS, sr, ?_, fun d δ' h v H' Z' FS' A p => ?_, fun x δ' h c dd H' Z' FS' p => ?_⟩
  · cases q : f δ with
    | none => rw [q] at hr; cases hr
    | some w => exact ⟨w, rfl⟩
  · rw [h] at hr; cases hr
    exact w.nx _ rfl σ H' Z' FS' p.b.s
  · rw [h] at hr; cases hr
    exact w.ex x _ rfl c dd σ H' Z' FS' p.q
theorem rd_ret {qt : Bool} {f : DS → Option ER} {te : TE} (ha : ∀ σ H Q, rdE G W false qt f σ H Q → te σ H Q) : ∀ D σ H, rdS G W n pn (evRet f) D σ H → tRet te D σ H := by
  rintro D σ H ⟨hn, δ, Z, S, FS, sr, r, hr, w⟩
  unfold evRet at hr
  refine ha σ H _ ⟨δ, Z, S, FS, sr, ?_, fun d δ' h v H' Z' FS' A p => ?_, fun x δ' h c dd H' Z' FS' p => ?_⟩
  · cases q : f δ with
    | none => rw [q] at hr; cases hr
    | some w => exact ⟨w, rfl⟩
  · rw [h] at hr; cases hr
    have vl := p.vl
    rw [if_neg Bool.false_ne_true] at vl
    exact w.rt d _ rfl v σ H' Z' FS' A ⟨p.sr, p.st, vl, Pin.refl _ _⟩
  · rw [h] at hr; cases hr
    exact w.ex x _ rfl c dd σ H' Z' FS' p.q
theorem rd_retN : ∀ D σ H, rdS G W n pn evRetN D σ H → tRetN D σ H := by
  rintro D σ H ⟨hn, δ, Z, S, FS, sr, r, hr, w⟩
  cases hr
  exact w.rt .non _ rfl .non σ H Z FS S0 ⟨sr, Step.quiet fun x h => h.elim, ⟨.fz .non fun _ z => z, fun x z => z.elim⟩, Pin.refl _ _⟩
theorem rd_brk : ∀ D σ H, rdS G W n pn evBrk D σ H → tBreak D σ H := by
  rintro D σ H ⟨hn, δ, Z, S, FS, sr, r, hr, w⟩
  cases hr
  exact w.bk δ rfl σ H Z FS (.refl sr)
theorem rd_cnt : ∀ D σ H, rdS G W n pn evCnt D σ H → tCont D σ H := by
  rintro D σ H ⟨hn, δ, Z, S, FS, sr, r, hr, w⟩
  cases hr
  exact w.ct δ rfl σ H Z FS (.refl sr)
/-- a slot gets a value of its own -/
theorem SR.put {Z : AS} {S : Nat → AS} {H : Hp} {δ : DS} {σ : St} {FS : Nat → AS} {i : Nat} {d : D} {v : V} {A : AS} (r : SR G Z S H δ σ FS) (hi : i < σ.length) (rp : Rep G Z S0 H d v A) (hA : ∀ x, A x → ¬ Z x ∧ ¬ Own S x ∧ ¬ Own FS x) :
    SR G Z S H (δ.set i (some d)) (σ.set i (some v)) (fun j x => (j = i ∧ A x) ∨ (j ≠ i ∧ FS j x)) where
  len := by rw [List.length_set, List.length_set]; exact r.len
  slot := fun j w ew => by
    rcases set_at ew with ⟨hj, ew2⟩ | ⟨hj, ew2⟩
    · cases ew2
      subst hj
      exact ⟨v, by rw [List.getElem?_set_self hi], rp.s0.congr fun x => ⟨fun q => q.elim (fun z => z.2) fun z => (z.1 rfl).elim, fun q => .inl ⟨rfl, q⟩⟩⟩
    · obtain ⟨u, eu, rp'⟩ := r.slot j w ew2
      exact ⟨u, by rw [List.getElem?_set_ne (Ne.symm hj)]; exact eu, rp'.congr fun x => ⟨fun q => q.elim (fun z => (hj z.1).elim) fun z => z.2, fun q => .inr ⟨hj, q⟩⟩⟩
  empt := fun j h x q => by
    have hl : i < δ.length := by rw [r.len]; exact hi
    rcases q with ⟨hj, q⟩ | ⟨hj, q⟩
    · subst hj
      exact h d (by rw [List.getElem?_set_self hl])
    · refine r.empt j (fun w ew => h w ?_) x q
      rw [List.getElem?_set_ne (Ne.symm hj)]; exact ew
  disj := fun j k x a b => by
    rcases a with ⟨hj, a⟩ | ⟨hj, a⟩ <;> rcases b with ⟨hk, b⟩ | ⟨hk, b⟩
    · rw [hj, hk]
    · exact ((hA x a).2.2 ⟨k, b⟩).elim
    · exact ((hA x b).2.2 ⟨j, a⟩).elim
    · exact r.disj j k x a b
  zs := r.zs
  ss := r.ss
  nz := fun x ⟨j, q⟩ => by
    rcases q with ⟨_, q⟩ | ⟨_, q⟩
    · exact ⟨(hA x q).1, (hA x q).2.1⟩
    · exact r.nz x ⟨j, q⟩
theorem own_put {FS : Nat → AS} {i : Nat} {A : AS} : ∀ x, Own (fun j x => (j = i ∧ A x) ∨ (j ≠ i ∧ FS j x)) x → Own FS x ∨ A x := fun x ⟨j, q⟩ => q.elim (fun z => .inr z.2) fun z => .inl ⟨j, z.2⟩
/-- name = value -/
theorem rd_asg {qt : Bool} {i : Nat} {f : DS → Option ER} {te : TE} (hi : i < n) (hp : i ∉ pn) (ha : ∀ σ H Q, rdE G W false qt f σ H Q → te σ H Q) : ∀ D σ H, rdS G W n pn (evAsg i f) D σ H → tAsg te (gName i) D σ H := by
  rintro D σ H ⟨hn, δ, Z, S, FS, sr, r, hr, w⟩
  unfold evAsg at hr
  refine ha σ H _ ⟨δ, Z, S, FS, sr, ?_, fun d δ' h v H' Z' FS' A p => ?_, fun x δ' h c dd H' Z' FS' p => ?_⟩
  · cases q : f δ with
    | none => rw [q] at hr; cases hr
    | some w => exact ⟨w, rfl⟩
  · rw [h] at hr; cases hr
    have vl := p.vl
    rw [if_neg Bool.false_ne_true] at vl
    refine w.nx _ rfl _ H' Z' _ ⟨p.sr.put (by omega) vl.1 vl.2, p.st.sub own_put, by rw [List.length_set], fun j hj => ?_⟩
    rw [List.getElem?_set_ne]
    rintro rfl
    exact hp hj
  · rw [h] at hr; cases hr
    exact w.ex x _ rfl c dd σ H' Z' FS' p.q
theorem rd_ifS {q1 : Bool} {t : DS → Option EB} {f g : DS → Option ES} {tt : TT} {ta tb : TS} (ht : ∀ σ H Q, rdT G W q1 t σ H Q → tt σ H Q) (ha : ∀ D σ H, rdS G W n pn f D σ H → ta D σ H) (hb : ∀ D σ H, rdS G W n pn g D σ H → tb D σ H) :
    ∀ D σ H, rdS G W n pn (evIfS t f g) D σ H → tIfS tt ta tb D σ H := by
  rintro D σ H ⟨hn, δ, Z, S, FS, sr, r, hr, w⟩
  unfold evIfS at hr
  refine ht σ H _ ⟨δ, Z, S, FS, sr, ?_, fun b δ' h H' Z' FS' p => ?_, fun x δ' h c dd H' Z' FS' p => ?_⟩
  · cases q : t δ with
    | none => rw [q] at hr; cases hr
    | some w => exact ⟨w, rfl⟩
  · rw [h] at hr
    simp only at hr
    cases b with
    | true =>
      rw [if_pos rfl]
      rw [if_pos rfl] at hr
      exact ha D σ H' ⟨hn, δ', Z', S, FS', p.sr, r, hr, w.back p.s⟩
    | false =>
      rw [if_neg Bool.false_ne_true]
      rw [if_neg Bool.false_ne_true] at hr
      exact hb D σ H' ⟨hn, δ', Z', S, FS', p.sr, r, hr, w.back p.s⟩
  · rw [h] at hr; cases hr
    exact w.ex x _ rfl c dd σ H' Z' FS' p.q
end
end PD
/-! P, part 8: loops, targets, lists that change. -/
namespace PD
open PySem L2

/-- what a loop walks: items, by an iterator J, as long as Z0 and T stand -/
structure Src (G : GC) (J : It) (items : List D) (Z0 T : AS) (H0 : Hp) : Prop where
  go : ∀ (Z : AS) H i, (∀ a, Z0 a → Z a) → (∀ a, (Z0 a ∨ T a) → ∀ o, H0 a = some o → H a = some o) → i < items.length → J.go i H
  stop : ∀ (Z : AS) H, (∀ a, Z0 a → Z a) → (∀ a, (Z0 a ∨ T a) → ∀ o, H0 a = some o → H a = some o) → J.stop items.length H
  yld : ∀ (Z : AS) H i x H', (∀ a, Z0 a → Z a) → (∀ a, (Z0 a ∨ T a) → ∀ o, H0 a = some o → H a = some o) → J.yld i H x H' → H' = H ∧ ∀ d, items[i]? = some d → RepF G Z H d x
/-- a target takes a frozen value -/
def TgOk (G : GC) (n : Nat) (pn : List Nat) (tg : D → DS → Option DS) (g : TG) : Prop :=
  ∀ d v Z S H δ σ FS δ', σ.length = n → SR G Z S H δ σ FS → RepF G Z H d v → tg d δ = some δ' → ∀ Q : St → Hp → Prop, (∀ σ' FS', SR G Z S H δ' σ' FS' → (∀ x, Own FS' x → Own FS x) → Pin pn σ σ' → Q σ' H) → g v σ H Q
def tgName (i : Nat) : D → DS → Option DS := fun d δ => some (δ.set i (some d))
/-- a tuple's parts to names -/
def tgNames : List Nat → List D → DS → Option DS
  | [], [], δ => some δ
  | i :: is, d :: ds, δ => tgNames is ds (δ.set i (some d))
  | _, _, _ => none
def tgTup (is : List Nat) : D → DS → Option DS := fun d δ => match d with
  | .tup ds => tgNames is ds δ
  | _ => none
def gNames : List Nat → TGs
  | [] => gNil
  | i :: is => gCons (gName i) (gNames is)
def evForL (tg : D → DS → Option DS) (body : DS → Option ES) : List D → DS → Option ES
  | [], δ => some (.nx, δ)
  | d :: r, δ => match tg d δ with
    | none => none
    | some δ1 => match body δ1 with
      | none => none
      | some (.nx, δ2) => evForL tg body r δ2
      | some (.ct, δ2) => evForL tg body r δ2
      | some (.bk, δ2) => some (.nx, δ2)
      | some (.rt v, δ2) => some (.rt v, δ2)
      | some (.ex x, δ2) => some (.ex x, δ2)
def evWhl (t : DS → Option EB) (body : DS → Option ES) : Nat → DS → Option ES
  | 0, _ => none
  | k + 1, δ => match t δ with
    | none => none
    | some (.ex x, δ1) => some (.ex x, δ1)
    | some (.ok b, δ1) => if b = true then match body δ1 with
        | none => none
        | some (.nx, δ2) => evWhl t body k δ2
        | some (.ct, δ2) => evWhl t body k δ2
        | some (.bk, δ2) => some (.nx, δ2)
        | some (.rt v, δ2) => some (.rt v, δ2)
        | some (.ex x, δ2) => some (.ex x, δ2)
      else some (.nx, δ1)
section
variable {G : GC} {W : WX} {X : Cx} {n : Nat} {pn : List Nat}
theorem tg_name {i : Nat} (hi : i < n) (hp : i ∉ pn) : TgOk G n pn (tgName i) (gName i) := by
  intro d v Z S H δ σ FS δ' hn sr rf e Q q
  cases e
  refine q _ _ (sr.put (by omega) (.fz (A := S0) rf fun _ z => z) fun x z => z.elim) (fun x z => (own_put x z).elim id fun z => z.elim) ⟨by rw [List.length_set], fun j hj => ?_⟩
  rw [List.getElem?_set_ne]
  rintro rfl
  exact hp hj
theorem tg_names : ∀ (is : List Nat), (∀ i ∈ is, i < n ∧ i ∉ pn) → ∀ ds vs Z S H δ σ FS δ', σ.length = n → SR G Z S H δ σ FS → ds.length = vs.length → (∀ (j : Nat) d v, ds[j]? = some d → vs[j]? = some v → RepF G Z H d v) → tgNames is ds δ = some δ' →
    ∀ Q : St → Hp → Prop, (∀ σ' FS', SR G Z S H δ' σ' FS' → (∀ x, Own FS' x → Own FS x) → Pin pn σ σ' → Q σ' H) → gNames is vs σ H Q
  | [], _, [], [], _, _, _, _, _, _, _, _, sr, _, _, e, Q, q => by
    cases e
    exact ⟨rfl, q _ _ sr (fun _ z => z) (Pin.refl _ _)⟩
  | i :: is, h, d :: ds, v :: vs, Z, S, H, δ, σ, FS, δ', hn, sr, hl, hr, e, Q, q => by
    refine ⟨v, vs, rfl, ?_⟩
    have h1 := h i List.mem_cons_self
    refine tg_name h1.1 h1.2 d v Z S H δ σ FS _ hn sr (hr 0 d v rfl rfl) rfl _ fun σ1 FS1 sr1 o1 p1 => ?_
    exact tg_names is (fun j hj => h j (List.mem_cons_of_mem _ hj)) ds vs Z S H _ σ1 FS1 δ' (p1.1.trans hn) sr1 (by simpa using hl) (fun j d v e1 e2 => hr (j + 1) d v (by simpa using e1) (by simpa using e2)) e Q
      fun σ' FS' a b c => q σ' FS' a (fun x z => o1 x (b x z)) (p1.trans c)
  | [], _, _ :: _, _, _, _, _, _, _, _, _, _, _, _, _, e, _, _ => by simp [tgNames] at e
  | _ :: _, _, [], _, _, _, _, _, _, _, _, _, _, _, _, e, _, _ => by simp [tgNames] at e
  | _ :: _, _, _ :: _, [], _, _, _, _, _, _, _, _, _, hl, _, _, _, _ => by simp at hl
  | [], _, [], _ :: _, _, _, _, _, _, _, _, _, _, hl, _, _, _, _ => by simp at hl
theorem tg_tup {is : List Nat} (h : ∀ i ∈ is, i < n ∧ i ∉ pn) : TgOk G n pn (tgTup is) (gTup G.K is.length (gNames is)) := by
  intro d v Z S H δ σ FS δ' hn sr rf e Q q
  cases d with
  | tup ds =>
    cases rf with
    | tup hs hl he =>
      rename_i a vs
      have len : ∀ (is : List Nat) (ds : List D) (δ δ' : DS), tgNames is ds δ = some δ' → is.length = ds.length := by
        intro is
        induction is with
        | nil => intro ds δ δ' e; cases ds with
          | nil => rfl
          | cons _ _ => simp [tgNames] at e
        | cons i is ih => intro ds δ δ' e; cases ds with
          | nil => simp [tgNames] at e
          | cons d ds => simp only [List.length_cons]; rw [ih ds _ _ e]
      refine ⟨a, vs, rfl, hs.imp (fun z => z.2) id, by rw [← hl, len is ds _ _ e], ?_⟩
      exact tg_names is h ds vs Z S H δ σ FS δ' hn sr hl he e Q q
  | _ => cases e
/-- the loop, by its items -/
theorem rd_loop {J : It} {items : List D} {Z0 T : AS} {H0 : Hp} {tg : D → DS → Option DS} {body : DS → Option ES} {g : TG} {tb : TS} (src : Src G J items Z0 T H0) (htg : TgOk G n pn tg g)
    (hb : ∀ D σ H, rdS G W n pn body D σ H → tb D σ H) {D : Ends} {δ0 : DS} {σ0 : St} {H1 : Hp} {Z1 : AS} {S FS1 : Nat → AS} {r : ES} (hn : σ0.length = n) (sr : SR G Z1 S H1 δ0 σ0 FS1) (hz : ∀ a, Z0 a → Z1 a)
    (hk : ∀ a, (Z0 a ∨ T a) → ∀ o, H0 a = some o → H1 a = some o) (htr : ∀ a, T a → ∃ o, H1 a = some o) (hto : ∀ a, T a → ¬ Own FS1 a) (hr : evForL tg body items δ0 = some r) (w : WantS G W S pn D σ0 H1 Z1 FS1 r) :
    ∃ Wn : Nat → Nat → St → Hp → Prop, (∃ m, Wn 0 m σ0 H1) ∧ ∀ i m σ H, Wn i m σ H →
      (J.stop i H ∧ D.nx σ H) ∨ (J.go i H ∧ ∃ N : St → Hp → Prop, (∀ σ' H', N σ' H' → ∃ m', m' < m ∧ Wn (i + 1) m' σ' H') ∧ ∀ x H', J.yld i H x H' → g x σ H' fun σ2 H2 => tb { D with nx := N, ct := N, bk := D.nx } σ2 H2) := by
  refine ⟨fun i m σ H => m + i = items.length ∧ σ.length = n ∧ ∃ δ Z FS, SR G Z S H δ σ FS ∧ (∀ a, Z0 a → Z a) ∧ (∀ a, (Z0 a ∨ T a) → ∀ o, H0 a = some o → H a = some o) ∧ (∀ a, T a → ∃ o, H a = some o) ∧ (∀ a, T a → ¬ Own FS a) ∧
    evForL tg body (items.drop i) δ = some r ∧ WantS G W S pn D σ H Z FS r, ⟨items.length, rfl, hn, δ0, Z1, FS1, sr, hz, hk, htr, hto, by simpa using hr, w⟩, ?_⟩
  rintro i m σ H ⟨hm, hn, δ, Z, FS, sr, hz, hk, htr, hto, hr, w⟩
  by_cases hlt : i < items.length
  · refine .inr ⟨src.go Z H i hz hk hlt, _, fun σ' H' q => ⟨m - 1, by omega, q⟩, fun x H' y => ?_⟩
    obtain ⟨rfl, yd⟩ := src.yld Z H i x H' hz hk y
    have ei : items[i]? = some items[i] := by simp [hlt]
    rw [List.drop_eq_getElem_cons hlt, evForL] at hr
    cases e1 : tg items[i] δ with
    | none => rw [e1] at hr; cases hr
    | some δ1 =>
      rw [e1] at hr
      simp only at hr
      refine htg _ x Z S H' δ σ FS δ1 hn sr (yd _ ei) e1 _ fun σ1 FS1 sr1 o1 p1 => ?_
      have a1 : PostS G S pn σ H' Z FS δ1 σ1 H' Z FS1 := ⟨sr1, (Step.refl H' Z (Own FS)).sub o1, p1⟩
      cases e2 : body δ1 with
      | none => rw [e2] at hr; cases hr
      | some q =>
        obtain ⟨o, δ2⟩ := q
        rw [e2] at hr
        refine hb _ σ1 H' ⟨p1.1.trans hn, δ1, Z, S, FS1, sr1, (o, δ2), e2, ?_⟩
        have next : ∀ {σ2 : St} {H2 : Hp} {Z2 : AS} {FS2 : Nat → AS}, PostS G S pn σ1 H' Z FS1 δ2 σ2 H2 Z2 FS2 → evForL tg body (items.drop (i + 1)) δ2 = some r →
            (m - 1 + (i + 1) = items.length ∧ σ2.length = n ∧ ∃ δ Z FS, SR G Z S H2 δ σ2 FS ∧ (∀ a, Z0 a → Z a) ∧ (∀ a, (Z0 a ∨ T a) → ∀ o, H0 a = some o → H2 a = some o) ∧ (∀ a, T a → ∃ o, H2 a = some o) ∧ (∀ a, T a → ¬ Own FS a) ∧
              evForL tg body (items.drop (i + 1)) δ = some r ∧ WantS G W S pn D σ2 H2 Z FS r) := fun {σ2 H2 Z2 FS2} p hr2 => by
          have st := a1.st.trans p.st
          refine ⟨by omega, (p.pn.1.trans p1.1).trans hn, δ2, Z2, FS2, p.sr, fun a z => st.zin a (hz a z), fun a z o e => st.keep a o (hk a z o e) fun q => ?_, fun a z => ?_, fun a z q => ?_, hr2, w.back (a1.thenS p)⟩
          · rcases z with z | z
            · exact (sr.nz a q).1 (hz a z)
            · exact hto a z q
          · obtain ⟨o, e⟩ := htr a z; exact st.there a o e
          · rcases st.pnew a q with q | q
            · exact hto a z q
            · obtain ⟨o, e⟩ := htr a z; rw [q] at e; cases e
        cases o with
        | nx =>
          exact ⟨fun δ' e' σ2 H2 Z2 FS2 p => by cases e'; exact next p hr, fun _ e' => (by cases e'), fun _ e' => (by cases e'), fun _ _ e' => (by cases e'), fun _ _ e' => (by cases e')⟩
        | ct =>
          exact ⟨fun _ e' => (by cases e'), fun _ e' => (by cases e'), fun δ' e' σ2 H2 Z2 FS2 p => by cases e'; exact next p hr, fun _ _ e' => (by cases e'), fun _ _ e' => (by cases e')⟩
        | bk =>
          cases hr
          exact ⟨fun _ e' => (by cases e'), fun δ' e' σ2 H2 Z2 FS2 p => by cases e'; exact w.nx _ rfl σ2 H2 Z2 FS2 (a1.thenS p), fun _ e' => (by cases e'), fun _ _ e' => (by cases e'), fun _ _ e' => (by cases e')⟩
        | rt d =>
          cases hr
          exact ⟨fun _ e' => (by cases e'), fun _ e' => (by cases e'), fun _ e' => (by cases e'), fun d' δ' e' v σ2 H2 Z2 FS2 A p => by cases e'; exact w.rt d _ rfl v σ2 H2 Z2 FS2 A (a1.thenR p), fun _ _ e' => (by cases e')⟩
        | ex y =>
          cases hr
          exact ⟨fun _ e' => (by cases e'), fun _ e' => (by cases e'), fun _ e' => (by cases e'), fun _ _ e' => (by cases e'), fun x' δ' e' c dd σ2 H2 Z2 FS2 p => by cases e'; exact w.ex y _ rfl c dd σ2 H2 Z2 FS2 (a1.thenQ p)⟩
  · have ei : i = items.length := by omega
    subst ei
    rw [List.drop_length] at hr
    cases hr
    exact .inl ⟨src.stop Z H hz hk, w.nx δ rfl σ H Z FS (.refl sr)⟩
/-- while -/
theorem rd_whl {qt : Bool} {t : DS → Option EB} {body : DS → Option ES} {tt : TT} {tb : TS} {k0 : Nat} (ht : ∀ σ H Q, rdT G W qt t σ H Q → tt σ H Q) (hb : ∀ D σ H, rdS G W n pn body D σ H → tb D σ H) : ∀ D σ H, rdS G W n pn (evWhl t body k0) D σ H → tWhile tt tb D σ H := by
  rintro D σ0 H0 ⟨hn0, δ0, Z0, S, FS0, sr0, r, hr0, w0⟩
  refine ⟨fun m σ H => σ.length = n ∧ ∃ δ Z FS, SR G Z S H δ σ FS ∧ evWhl t body m δ = some r ∧ WantS G W S pn D σ H Z FS r, ⟨k0, hn0, δ0, Z0, FS0, sr0, hr0, w0⟩, ?_⟩
  rintro m σ H ⟨hn, δ, Z, FS, sr, hr, w⟩
  cases m with
  | zero => cases hr
  | succ k =>
    rw [evWhl] at hr
    refine ht σ H _ ⟨δ, Z, S, FS, sr, ?_, fun b δ1 h H1 Z1 FS1 p => ?_, fun x δ1 h c dd H1 Z1 FS1 p => ?_⟩
    · cases q : t δ with
      | none => rw [q] at hr; cases hr
      | some w => exact ⟨w, rfl⟩
    · rw [h] at hr
      simp only at hr
      have a1 : PostS G S pn σ H Z FS δ1 σ H1 Z1 FS1 := p.s
      cases b with
      | false =>
        rw [if_neg Bool.false_ne_true]
        rw [if_neg Bool.false_ne_true] at hr
        cases hr
        exact w.nx _ rfl σ H1 Z1 FS1 a1
      | true =>
        rw [if_pos rfl]
        rw [if_pos rfl] at hr
        refine ⟨_, fun σ' H' q => ⟨k, Nat.lt_succ_self k, q⟩, ?_⟩
        cases e2 : body δ1 with
        | none => rw [e2] at hr; cases hr
        | some q =>
          obtain ⟨o, δ2⟩ := q
          rw [e2] at hr
          refine hb _ σ H1 ⟨hn, δ1, Z1, S, FS1, p.sr, (o, δ2), e2, ?_⟩
          cases o with
          | nx =>
            exact ⟨fun δ' e' σ2 H2 Z2 FS2 p2 => by cases e'; exact ⟨p2.pn.1.trans hn, δ2, Z2, FS2, p2.sr, hr, w.back (a1.thenS p2)⟩, fun _ e' => (by cases e'), fun _ e' => (by cases e'), fun _ _ e' => (by cases e'), fun _ _ e' => (by cases e')⟩
          | ct =>
            exact ⟨fun _ e' => (by cases e'), fun _ e' => (by cases e'), fun δ' e' σ2 H2 Z2 FS2 p2 => by cases e'; exact ⟨p2.pn.1.trans hn, δ2, Z2, FS2, p2.sr, hr, w.back (a1.thenS p2)⟩, fun _ _ e' => (by cases e'), fun _ _ e' => (by cases e')⟩
          | bk =>
            cases hr
            exact ⟨fun _ e' => (by cases e'), fun δ' e' σ2 H2 Z2 FS2 p => by cases e'; exact w.nx _ rfl σ2 H2 Z2 FS2 (a1.thenS p), fun _ e' => (by cases e'), fun _ _ e' => (by cases e'), fun _ _ e' => (by cases e')⟩
          | rt d =>
            cases hr
            exact ⟨fun _ e' => (by cases e'), fun _ e' => (by cases e'), fun _ e' => (by cases e'), fun d' δ' e' v σ2 H2 Z2 FS2 A p => by cases e'; exact w.rt d _ rfl v σ2 H2 Z2 FS2 A (a1.thenR p), fun _ _ e' => (by cases e')⟩
          | ex y =>
            cases hr
            exact ⟨fun _ e' => (by cases e'), fun _ e' => (by cases e'), fun _ e' => (by cases e'), fun _ _ e' => (by cases e'), fun x' δ' e' c dd σ2 H2 Z2 FS2 p => by cases e'; exact w.ex y _ rfl c dd σ2 H2 Z2 FS2 (a1.thenQ p)⟩
    · rw [h] at hr; cases hr
      exact w.ex x _ rfl c dd σ H1 Z1 FS1 p.q
end
end PD
/-! P, part 9: what is walked; for. -/
namespace PD
open PySem L2

/-- a list, a tuple or a text, whatever comes -/
def iAny (K : PySem.W.Frag) (tl : TE) : TI := fun σ H R => tl σ H fun x H1 => (∃ a, x = .ref a ∧ (∃ xs, SqL K H1 a xs) ∧ R (Itl K a) H1) ∨ (∃ a, x = .ref a ∧ (∃ xs, SqT K H1 a xs) ∧ R (Itt K a) H1) ∨ ∃ z, x = .str z ∧ R (Its z) H1
theorem pi_any {X : Cx} {tg l : Expr} {tl : TE} (hl : PE X l tl) : PI X tg l (iAny X.K tl) := by
  refine ⟨fun pins s σ H R I h => ?_⟩
  refine thn (hl.run pins s σ H _ I h) fun v s1 ⟨x, H1, I1, r1, q1⟩ => ?_
  rcases q1 with ⟨a, e, ⟨xs, hq⟩, q⟩ | ⟨a, e, ⟨xs, hq⟩, q⟩ | ⟨z, e, q⟩
  · subst e
    cases r1
    obtain ⟨its, rv, p, hz⟩ := I1.list hq
    refine wpAny_pyIter_list p.isList ?_
    refine ⟨s1.heap.objs.size, [s1.heap.objs.size], _, _, H1, rfl, I1.kept (t' := s1.toks) fun b o e => Heap.get?_push_of_some _ e, turn_list a _, ⟨_, Heap.get?_push_size _ rfl, rfl, rfl⟩, fun b hb => ?_, q⟩
    have e : b = s1.heap.objs.size := by simpa using hb
    subst e
    exact I1.fpOk (Nat.le_refl _) (I1.hok.fresh (Nat.le_refl _))
  · subst e
    cases r1
    obtain ⟨its, rv, p, hz⟩ := I1.tuple hq
    refine wpAny_pyIter_tuple (show s1.heap.IsTuple a its.toArray from p) ?_
    refine ⟨s1.heap.objs.size, [s1.heap.objs.size], _, _, H1, rfl, I1.kept (t' := s1.toks) fun b o e => Heap.get?_push_of_some _ e, turn_tuple a _, ⟨_, Heap.get?_push_size _ rfl, rfl, rfl⟩, fun b hb => ?_, q⟩
    have e : b = s1.heap.objs.size := by simpa using hb
    subst e
    exact I1.fpOk (Nat.le_refl _) (I1.hok.fresh (Nat.le_refl _))
  · subst e
    obtain ⟨t, rfl⟩ := r1
    cases ha : z.cps.all (· < 128)
    · exact wpAny_pyIter_wide ha (pi_one (tk := s1.toks) I1 _ (turn_str _ z t "str_iterator" (.inr rfl)) ⟨_, Heap.get?_push_size _ rfl, rfl, rfl⟩ q)
    · exact wpAny_pyIter_ascii ha (pi_one (tk := s1.toks) I1 _ (turn_str _ z t "str_ascii_iterator" (.inl rfl)) ⟨_, Heap.get?_push_size _ rfl, rfl, rfl⟩ q)

def signs (z : Str) : List D := z.cps.toList.map fun c => .str ⟨#[c]⟩
/-- the items that a loop goes through -/
def itemsOf : D → Option (List D)
  | .lst m xs => if shal m then some xs else none
  | .tup xs => some xs
  | .str z => some (signs z)
  | _ => none
def owned : D → Bool
  | .lst .o _ => true
  | _ => false
/-- a source: its items, or (a name that owns its list) the name -/
inductive Sr where
  | all (xs : List D)
  | lent (i : Nat) (d : D) (xs : List D)
abbrev EI := RR Sr × DS
/-- rt: the name that the source is; vw: it is a view -/
def evSrc (rt : Option Nat) (vw : Bool) (f : DS → Option ER) : DS → Option EI := fun δ => match f δ with
  | none => none
  | some (.ex x, δ') => some (.ex x, δ')
  | some (.ok d, δ') => match itemsOf d with
    | none => none
    | some xs => if vw && owned d then match rt with
        | none => none
        | some i => some (.ok (.lent i d xs), δ'.set i (some (lend d)))
      else some (.ok (.all xs), δ')
/-- range(n), range(a, b) -/
def intD : D → Option Int
  | .int i => some i
  | _ => none
def upto (lo : Int) (n : Nat) : List D := (List.range n).map fun k => .int (lo + (k : Nat))
def rng1Of : List D → Option (List D)
  | [.int j] => if -(2 ^ 62) ≤ j ∧ j < 2 ^ 62 then some (upto 0 j.toNat) else none
  | _ => none
def rng2Of : List D → Option (List D)
  | [.int i, .int j] => if -(2 ^ 62) ≤ i ∧ i < 2 ^ 62 ∧ -(2 ^ 62) ≤ j ∧ j < 2 ^ 62 then some (upto i (j - i).toNat) else none
  | _ => none
def evRng (g : List D → Option (List D)) (f : DS → Option EA) : DS → Option EI := fun δ => match f δ with
  | none => none
  | some (.ex x, δ') => some (.ex x, δ')
  | some (.ok ds, δ') => match g ds with
    | none => none
    | some xs => some (.ok (.all xs), δ')
def srItems : Sr → List D
  | .all xs => xs
  | .lent _ _ xs => xs
def srBack : Sr → DS → DS
  | .all _, δ => δ
  | .lent i d _, δ => δ.set i (some d)
def srS (S FS : Nat → AS) : Sr → Nat → AS
  | .all _ => S
  | .lent i _ _ => fun j x => S j x ∨ (j = i ∧ FS i x)

section
variable {G : GC} {W : WX} {X : Cx} {n : Nat} {pn : List Nat}
/-- a slot's own things are lent -/
theorem SR.lend {Z : AS} {S : Nat → AS} {H : Hp} {δ : DS} {σ : St} {FS : Nat → AS} {i : Nat} {d : D} (r : SR G Z S H δ σ FS) (e : δ[i]? = some (some d)) :
    SR G Z (fun j x => S j x ∨ (j = i ∧ FS i x)) H (δ.set i (some (PD.lend d))) σ (fun j x => j ≠ i ∧ FS j x) where
  len := by rw [List.length_set]; exact r.len
  slot := fun j w ew => by
    rcases set_at ew with ⟨hj, ew2⟩ | ⟨hj, ew2⟩
    · cases ew2
      obtain ⟨v, ev, rp⟩ := r.slot i d e
      exact ⟨v, by rw [hj]; exact ev, (rp.lent.mono (fun _ z => z) (fun x z => by rw [hj]; exact z.imp id fun q => ⟨rfl, q⟩) fun _ _ _ e => e).congr fun x => ⟨fun q => (q.1 hj).elim, fun q => q.elim⟩⟩
    · obtain ⟨u, eu, rp⟩ := r.slot j w ew2
      exact ⟨u, eu, (rp.mono (fun _ z => z) (fun _ z => .inl z) fun _ _ _ e => e).congr fun x => ⟨fun q => q.2, fun q => ⟨hj, q⟩⟩⟩
  empt := fun j h x q => by
    refine r.empt j (fun w ew => h w ?_) x q.2
    rw [List.getElem?_set_ne (Ne.symm q.1)]; exact ew
  disj := fun j k x a b => r.disj j k x a.2 b.2
  zs := r.zs
  ss := fun a ⟨j, q⟩ => q.elim (fun z => r.ss a ⟨j, z⟩) fun z => r.own a ⟨i, z.2⟩
  nz := fun a ⟨j, hj, q⟩ => ⟨(r.nz a ⟨j, q⟩).1, fun ⟨k, z⟩ => z.elim (fun z => (r.nz a ⟨j, q⟩).2 ⟨k, z⟩) fun z => hj (r.disj j i a q z.2)⟩
/-- .. and given back -/
theorem SR.unlend {Z Z' : AS} {S : Nat → AS} {H H' : Hp} {δ δ' : DS} {σ σ' : St} {FS FS' : Nat → AS} {i : Nat} {d : D} (r : SR G Z S H δ σ FS) (e : δ[i]? = some (some d))
    (r' : SR G Z' (fun j x => S j x ∨ (j = i ∧ FS i x)) H' δ' σ' FS') (st : Step H Z (Own fun j x => j ≠ i ∧ FS j x) H' Z' (Own FS')) (es : σ'[i]? = σ[i]?) :
    SR G Z' S H' (δ'.set i (some d)) σ' (fun j x => (j = i ∧ FS i x) ∨ (j ≠ i ∧ FS' j x)) ∧ Step H Z (Own FS) H' Z' (Own fun j x => (j = i ∧ FS i x) ∨ (j ≠ i ∧ FS' j x)) := by
  obtain ⟨v, ev, rp⟩ := r.slot i d e
  have notP : ∀ x, FS i x → ¬ Own (fun j x => j ≠ i ∧ FS j x) x := fun x h ⟨j, hj, q⟩ => hj (r.disj j i x q h)
  have apart : ∀ j x, FS' j x → FS i x → False := fun j x a b => by
    rcases st.pnew x ⟨j, a⟩ with z | z
    · exact notP x b z
    · obtain ⟨o, e⟩ := r.own x ⟨i, b⟩; rw [z] at e; cases e
  refine ⟨⟨by rw [List.length_set]; exact r'.len, fun j w ew => ?_, fun j h x q => ?_, fun j k x a b => ?_, r'.zs, fun a ⟨j, z⟩ => r'.ss a ⟨j, .inl z⟩, fun a ⟨j, q⟩ => ?_⟩, ?_⟩
  · rcases set_at ew with ⟨hj, ew2⟩ | ⟨hj, ew2⟩
    · cases ew2
      subst hj
      refine ⟨v, es.trans ev, ((rp.mono st.zin (fun _ z => z) fun a z o ea => st.keep a o ea fun q => ?_)).congr fun x => ⟨fun q => q.elim (fun z => z.2) fun z => (z.1 rfl).elim, fun q => .inl ⟨rfl, q⟩⟩⟩
      obtain ⟨k, hk, q⟩ := q
      rcases z with z | z | z
      · exact (r.nz a ⟨k, q⟩).1 z
      · exact (r.nz a ⟨k, q⟩).2 ⟨_, z⟩
      · exact hk (r.disj k _ a q z)
    · obtain ⟨u, eu, rp'⟩ := r'.slot j w ew2
      exact ⟨u, eu, (rp'.mono (fun _ z => z) (fun x z => z.elim id fun z => (hj z.1).elim) fun _ _ _ e => e).congr fun x => ⟨fun q => q.elim (fun z => (hj z.1).elim) fun z => z.2, fun q => .inr ⟨hj, q⟩⟩⟩
  · rcases q with ⟨hj, q⟩ | ⟨hj, q⟩
    · subst hj
      have hl : j < δ'.length := by
        rw [r'.len]
        have := (List.getElem?_eq_some_iff.mp (es.trans ev)).1
        exact this
      exact h d (by rw [List.getElem?_set_self hl])
    · refine r'.empt j (fun w ew => h w ?_) x q
      rw [List.getElem?_set_ne (Ne.symm hj)]; exact ew
  · rcases a with ⟨hj, a⟩ | ⟨hj, a⟩ <;> rcases b with ⟨hk, b⟩ | ⟨hk, b⟩
    · rw [hj, hk]
    · exact (apart k x b a).elim
    · exact (apart j x a b).elim
    · exact r'.disj j k x a b
  · rcases q with ⟨hj, q⟩ | ⟨hj, q⟩
    · refine ⟨fun z => ?_, (r.nz a ⟨i, q⟩).2⟩
      rcases st.znew a z with z | z | z
      · exact (r.nz a ⟨i, q⟩).1 z
      · exact notP a q z
      · obtain ⟨o, e⟩ := r.own a ⟨i, q⟩; rw [z] at e; cases e
    · exact ⟨(r'.nz a ⟨j, q⟩).1, fun ⟨k, z⟩ => (r'.nz a ⟨j, q⟩).2 ⟨k, .inl z⟩⟩
  · refine ⟨fun a o ea q => st.keep a o ea fun ⟨j, _, z⟩ => q ⟨j, z⟩, st.there, st.zin, fun a z => (st.znew a z).imp id (·.imp (fun ⟨j, _, q⟩ => ⟨j, q⟩) id), fun a ⟨j, q⟩ => ?_⟩
    rcases q with ⟨_, q⟩ | ⟨_, q⟩
    · exact .inl ⟨i, q⟩
    · exact (st.pnew a ⟨j, q⟩).imp (fun ⟨k, _, q⟩ => ⟨k, q⟩) id

/-- behind a source: it stands (Src), and nothing of it is held by the slots -/
structure PostI (G : GC) (S : Nat → AS) (qt : Bool) (σ : St) (H : Hp) (Z : AS) (FS : Nat → AS) (s : Sr) (δ' : DS) (J : It) (H' : Hp) (Z' : AS) (FS' : Nat → AS) : Prop where
  ex : ∃ δ1 FS1 T, PostB G S qt σ H Z FS δ1 H' Z' FS1 ∧ Src G J (srItems s) Z' T H' ∧ (∀ a, T a → (∃ o, H' a = some o) ∧ ¬ Own FS' a) ∧
    SR G Z' (srS S FS1 s) H' δ' σ FS' ∧ match s with
      | .all _ => δ' = δ1 ∧ FS' = FS1
      | .lent i d _ => δ1[i]? = some (some d) ∧ δ' = δ1.set i (some (lend d)) ∧ FS' = fun j x => j ≠ i ∧ FS1 j x
def rdI (G : GC) (W : WX) (qt : Bool) (f : DS → Option EI) : TI := fun σ H R => ∃ δ Z S FS, SR G Z S H δ σ FS ∧ (∃ r, f δ = some r) ∧
  (∀ s δ', f δ = some (.ok s, δ') → ∀ J H' Z' FS', PostI G S qt σ H Z FS s δ' J H' Z' FS' → R J H') ∧
  (∀ x δ', f δ = some (.ex x, δ') → ∀ c dd H' Z' FS', PostX G S σ H Z FS x δ' c dd H' Z' FS' → W c dd σ H')

theorem src_list {Z : AS} {H : Hp} {a : Addr} {vs : List V} {xs : List D} {T : AS} (sq : (Rd H a (.lst vs) ∧ (Z a ∨ T a)) ∨ KwL G.K a vs) (hl : xs.length = vs.length) (he : ∀ (i : Nat) d w, xs[i]? = some d → vs[i]? = some w → RepF G Z H d w) : Src G (Itl G.K a) xs Z T H := by
  have keep : ∀ {H' : Hp}, (∀ a, (Z a ∨ T a) → ∀ o, H a = some o → H' a = some o) → SqL G.K H' a vs := fun {H'} k => by
    rcases sq with ⟨sq, z⟩ | sq
    · exact .inl (Rd.keep (k a z) sq)
    · exact .inr sq
  refine ⟨fun Z' H' i hz k hi => ⟨vs, vs[i]'(hl ▸ hi), keep k, by simp [hl ▸ hi]⟩, fun Z' H' hz k => ⟨vs, keep k, by rw [hl]; exact Nat.le_refl _⟩, fun Z' H' i x H2 hz k y => ⟨y.1, fun d e => ?_⟩⟩
  have := y.2 vs (keep k)
  exact (he i d x e this).mono hz fun a z o e => k a (.inl z) o e
theorem src_tup {Z : AS} {H : Hp} {a : Addr} {vs : List V} {xs : List D} {T : AS} (sq : (Rd H a (.tup vs) ∧ (Z a ∨ T a)) ∨ KwT G.K a vs) (hl : xs.length = vs.length) (he : ∀ (i : Nat) d w, xs[i]? = some d → vs[i]? = some w → RepF G Z H d w) : Src G (Itt G.K a) xs Z T H := by
  have keep : ∀ {H' : Hp}, (∀ a, (Z a ∨ T a) → ∀ o, H a = some o → H' a = some o) → SqT G.K H' a vs := fun {H'} k => by
    rcases sq with ⟨sq, z⟩ | sq
    · exact .inl (Rd.keep (k a z) sq)
    · exact .inr sq
  refine ⟨fun Z' H' i hz k hi => ⟨vs, vs[i]'(hl ▸ hi), keep k, by simp [hl ▸ hi]⟩, fun Z' H' hz k => ⟨vs, keep k, by rw [hl]; exact Nat.le_refl _⟩, fun Z' H' i x H2 hz k y => ⟨y.1, fun d e => ?_⟩⟩
  have := y.2 vs (keep k)
  exact (he i d x e this).mono hz fun a z o e => k a (.inl z) o e
theorem src_str {Z : AS} {H : Hp} {z : Str} {T : AS} : Src G (Its z) (signs z) Z T H := by
  have hl : (signs z).length = z.cps.size := by unfold signs; simp
  refine ⟨fun Z' H' i hz k hi => ?_, fun Z' H' hz k => ?_, fun Z' H' i x H2 hz k y => ⟨y.1, fun d e => ?_⟩⟩
  · show i < z.cps.size
    omega
  · show z.cps.size ≤ (signs z).length
    omega
  · obtain ⟨_, c, hc, rfl⟩ := y
    unfold signs at e
    obtain ⟨c', ec, rfl⟩ := getMap e
    have : c' = c := by
      rw [Array.getElem?_toList] at ec
      rw [hc] at ec
      exact (Option.some.inj ec).symm
    subst this
    exact .str _
theorem src_rng {Z : AS} {H : Hp} {lo : Int} {n : Nat} {T : AS} : Src G (Itr lo n) (upto lo n) Z T H := by
  have hl : (upto lo n).length = n := by unfold upto; simp
  refine ⟨fun Z' H' i hz k hi => ?_, fun Z' H' hz k => ?_, fun Z' H' i x H2 hz k y => ⟨y.1, fun d e => ?_⟩⟩
  · show i < n
    omega
  · show n ≤ (upto lo n).length
    omega
  · obtain ⟨_, rfl⟩ := y
    unfold upto at e
    obtain ⟨k, ek, rfl⟩ := getMap e
    have : k = i := by
      obtain ⟨h, e⟩ := List.getElem?_eq_some_iff.mp ek
      rw [List.getElem_range] at e
      exact e.symm
    subst this
    exact .int _
/-- a temporary list of arguments is let go -/
theorem PostA.b {S : Nat → AS} {ks : List Bool} {qt : Bool} {σ : St} {H : Hp} {Z : AS} {FS : Nat → AS} {ds : List D} {δ' : DS} {vs : List V} {H' : Hp} {Z' : AS} {FS' : Nat → AS} {B : Nat → AS} (p : PostA G S ks qt σ H Z FS ds δ' vs H' Z' FS' B) : PostB G S qt σ H Z FS δ' H' Z' FS' :=
  ⟨p.sr, p.st.sub fun _ z => .inl z, p.qq⟩
theorem rd_rng {g : List D → Option (List D)} {r : List V → Hp → (It → Hp → Prop) → Prop} (hg : ∀ Z S H ds vs xs R, ArgV G Z S H ds vs → g ds = some xs → (∀ J, (∀ Z' T H', Src G J xs Z' T H') → R J H) → r vs H R)
    {ks : List Bool} {qt : Bool} {f : DS → Option EA} {ta : TA} (ha : ∀ σ H Q, rdA G W ks qt f σ H Q → ta σ H Q) : ∀ σ H R, rdI G W qt (evRng g f) σ H R → ta σ H fun vs H1 => r vs H1 R := by
  rintro σ H R ⟨δ, Z, S, FS, sr, ⟨w, hf⟩, ok, ex⟩
  unfold evRng at hf ok ex
  refine ha σ H _ ⟨δ, Z, S, FS, sr, ?_, fun ds δ' h vs H' Z' FS' B p => ?_, fun x δ' h => ?_⟩
  · cases q : f δ with
    | none => rw [q] at hf; cases hf
    | some w => exact ⟨w, rfl⟩
  · rw [h] at hf ok
    simp only at hf ok
    cases e : g ds with
    | none => rw [e] at hf; cases hf
    | some xs =>
      rw [e] at ok
      exact hg Z' (Own S) H' ds vs xs _ p.ar.argV e fun J sj => ok (.all xs) δ' rfl J H' Z' FS' ⟨δ', FS', S0, p.b, sj _ _ _, fun a z => z.elim, p.sr, rfl, rfl⟩
  · rw [h] at ex
    exact ex x δ' rfl
theorem rng1_ok : ∀ Z S H ds vs xs (R : It → Hp → Prop), ArgV G Z S H ds vs → rng1Of ds = some xs → (∀ J, (∀ Z' T H', Src G J xs Z' T H') → R J H) → ∃ j : Int, vs = [.int j] ∧ -(2 ^ 62) ≤ j ∧ j < 2 ^ 62 ∧ R (Itr 0 j.toNat) H := by
  intro Z S H ds vs xs R a e h
  unfold rng1Of at e
  split at e
  · split at e
    · rename_i hb
      cases e
      obtain ⟨x, A, rfl, r1⟩ := argv1 a
      rw [r1.intV]
      exact ⟨_, rfl, hb.1, hb.2, h _ fun _ _ _ => src_rng⟩
    · cases e
  · cases e
theorem rng2_ok : ∀ Z S H ds vs xs (R : It → Hp → Prop), ArgV G Z S H ds vs → rng2Of ds = some xs → (∀ J, (∀ Z' T H', Src G J xs Z' T H') → R J H) → ∃ i j : Int, vs = [.int i, .int j] ∧ (-(2 ^ 62) ≤ i ∧ i < 2 ^ 62 ∧ -(2 ^ 62) ≤ j ∧ j < 2 ^ 62) ∧ R (Itr i (j - i).toNat) H := by
  intro Z S H ds vs xs R a e h
  unfold rng2Of at e
  split at e
  · split at e
    · rename_i hb
      cases e
      obtain ⟨x, y, A, B, rfl, r1, r2⟩ := argv2 a
      rw [r1.intV, r2.intV]
      exact ⟨_, _, rfl, hb, h _ fun _ _ _ => src_rng⟩
    · cases e
  · cases e
theorem Rep.lstS {Z S : AS} {H : Hp} {m : Fl} {xs : List D} {v : V} {A : AS} (r : Rep G Z S H (.lst m xs) v A) (hs : shal m = true) : ∃ a vs, v = .ref a ∧ ((Rd H a (.lst vs) ∧ (Z a ∨ S a ∨ A a)) ∨ KwL G.K a vs) ∧ xs.length = vs.length ∧ ∀ (i : Nat) d w, xs[i]? = some d → vs[i]? = some w → RepF G Z H d w := by
  cases r with
  | fz h hA =>
    cases h with
    | lsk h hl he => exact ⟨_, _, rfl, h.imp (fun z => ⟨z.2, .inl z.1⟩) id, hl, he⟩
    | lst z h hl he => exact ⟨_, _, rfl, .inl ⟨.inl h, .inl z⟩, hl, he⟩
  | lo h hl he hA => exact ⟨_, _, rfl, .inl ⟨.inl h, .inr (.inr ((hA _).mpr rfl))⟩, hl, he⟩
  | loo B h' hl he hd hn ho hA => exact absurd hs (by decide)
  | ll s h hl he hA => exact ⟨_, _, rfl, .inl ⟨.inl h, .inr (.inl s)⟩, hl, he⟩
  | lll s h hl he hA => exact absurd hs (by decide)
theorem Rep.tupS {Z S : AS} {H : Hp} {xs : List D} {v : V} {A : AS} (r : Rep G Z S H (.tup xs) v A) : ∃ a vs, v = .ref a ∧ ((Rd H a (.tup vs) ∧ (Z a ∨ S a ∨ A a)) ∨ KwT G.K a vs) ∧ xs.length = vs.length ∧ ∀ (i : Nat) d w, xs[i]? = some d → vs[i]? = some w → RepF G Z H d w := by
  cases r with
  | fz h hA =>
    cases h with
    | tup h hl he => exact ⟨_, _, rfl, h.imp (fun z => ⟨z.2, .inl z.1⟩) id, hl, he⟩
/-- an owned list that is no view, or a view that is not owned: the list is held by nobody else -/
theorem Rep.notOwned {Z S : AS} {H : Hp} {d : D} {v : V} {A : AS} {xs : List D} (r : Rep G Z S H d v A) (h : owned d = false) (hi : itemsOf d = some xs) : ∀ x, ¬ A x := by
  cases r with
  | fz h hA => exact hA
  | lo h' hl he hA => exact absurd (show true = false from h) (by decide)
  | ll s h hl he hA => exact hA
  | _ => exact absurd hi (by simp [itemsOf, shal])
/-- the items of a value, walked -/
theorem src_of {Z S : AS} {H : Hp} {d : D} {v : V} {A : AS} {xs : List D} (r : Rep G Z S H d v A) (hi : itemsOf d = some xs) : ∀ (R : It → Hp → Prop), (∀ J, Src G J xs Z (fun x => S x ∨ A x) H → R J H) →
    (∃ a, v = .ref a ∧ (∃ xs, SqL G.K H a xs) ∧ R (Itl G.K a) H) ∨ (∃ a, v = .ref a ∧ (∃ xs, SqT G.K H a xs) ∧ R (Itt G.K a) H) ∨ ∃ z, v = .str z ∧ R (Its z) H := by
  intro R h
  cases d with
  | lst m ys =>
    have hi : (if shal m = true then some ys else none) = some xs := hi
    by_cases hs : shal m = true
    · rw [if_pos hs] at hi; cases hi
      obtain ⟨a, vs, rfl, sq, hl, he⟩ := r.lstS hs
      exact .inl ⟨a, rfl, ⟨vs, sq.imp (fun z => z.1) id⟩, h _ (src_list sq hl he)⟩
    · rw [if_neg hs] at hi; cases hi
  | tup ys =>
    cases hi
    obtain ⟨a, vs, rfl, sq, hl, he⟩ := r.tupS
    exact .inr (.inl ⟨a, rfl, ⟨vs, sq.imp (fun z => z.1) id⟩, h _ (src_tup sq hl he)⟩)
  | str z =>
    cases hi
    rw [r.strV]
    exact .inr (.inr ⟨z, rfl, h _ src_str⟩)
  | _ => cases hi
/-- an expression's value is walked -/
theorem rd_src {vw qt : Bool} {f : DS → Option ER} {te : TE} (ha : ∀ σ H Q, rdE G W vw qt f σ H Q → te σ H Q) : ∀ σ H R, rdI G W qt (evSrc none vw f) σ H R → iAny G.K te σ H R := by
  rintro σ H R ⟨δ, Z, S, FS, sr, ⟨w, hf⟩, ok, ex⟩
  unfold evSrc at hf ok ex
  refine ha σ H _ ⟨δ, Z, S, FS, sr, ?_, fun d δ' h v H' Z' FS' A p => ?_, fun x δ' h => ?_⟩
  · cases q : f δ with
    | none => rw [q] at hf; cases hf
    | some w => exact ⟨w, rfl⟩
  · rw [h] at hf ok
    simp only at hf ok
    cases e : itemsOf d with
    | none => rw [e] at hf; cases hf
    | some xs =>
      rw [e] at hf ok
      simp only at hf ok
      by_cases hc : (vw && owned d) = true
      · rw [if_pos hc] at hf; cases hf
      · rw [if_neg hc] at ok
        have vl := p.vl
        have rp := p.rep
        refine src_of rp e R fun J sj => ok (.all xs) δ' rfl J H' Z' FS' ⟨δ', FS', _, p.b, sj, fun a z => ?_, p.sr, rfl, rfl⟩
        rcases z with z | z
        · exact ⟨p.sr.ss a z, fun q => (p.sr.nz a q).2 z⟩
        · refine ⟨rp.own a z, fun q => ?_⟩
          cases hv : vw with
          | true =>
            have ho : owned d = false := by
              cases q : owned d with
              | true => exact absurd (by simp [hv, q]) hc
              | false => rfl
            exact rp.notOwned ho e a z
          | false =>
            rw [hv, if_neg Bool.false_ne_true] at vl
            exact (vl.2 a z).2.2 q
  · rw [h] at ex
    exact ex x δ' rfl
/-- a name's list is walked; if the name owns it, it is lent meanwhile -/
theorem rd_srcV {i : Nat} : ∀ σ H R, rdI G W false (evSrc (some i) true (evVar i)) σ H R → iAny G.K (tVar i) σ H R := by
  rintro σ H R ⟨δ, Z, S, FS, sr, ⟨w, hf⟩, ok, ex⟩
  unfold evSrc evVar at hf ok
  cases e : δ[i]? with
  | none => rw [e] at hf; cases hf
  | some q =>
    cases q with
    | none => rw [e] at hf; cases hf
    | some d =>
      simp only [e] at hf ok
      obtain ⟨v, ev, rp⟩ := sr.slot i d e
      refine ⟨v, ev, ?_⟩
      cases ei : itemsOf d with
      | none => rw [ei] at hf; cases hf
      | some xs =>
        rw [ei] at hf ok
        simp only at hf ok
        have sb : PostB G S false σ H Z FS δ H Z FS := ⟨sr, Step.refl _ _ _, fun q => absurd q Bool.false_ne_true⟩
        by_cases hc : owned d = true
        · rw [hc] at ok
          refine src_of rp ei R fun J sj => ok (.lent i d xs) _ rfl J H Z _ ⟨δ, FS, _, sb, sj, fun a z => ?_, sr.lend e, e, rfl, rfl⟩
          rcases z with z | z
          · exact ⟨sr.ss a ⟨i, z⟩, fun ⟨j, _, q⟩ => (sr.nz a ⟨j, q⟩).2 ⟨i, z⟩⟩
          · exact ⟨rp.own a z, fun ⟨j, hj, q⟩ => hj (sr.disj j i a q z)⟩
        · have hc' : owned d = false := by cases q : owned d <;> simp_all
          rw [hc'] at ok
          refine src_of rp ei R fun J sj => ok (.all xs) _ rfl J H Z FS ⟨δ, FS, _, sb, sj, fun a z => ?_, sr, rfl, rfl⟩
          rcases z with z | z
          · exact ⟨sr.ss a ⟨i, z⟩, fun q => (sr.nz a q).2 ⟨i, z⟩⟩
          · exact (rp.notOwned hc' ei a z).elim
def evFor (fs : DS → Option EI) (tg : D → DS → Option DS) (body : DS → Option ES) : DS → Option ES := fun δ => match fs δ with
  | none => none
  | some (.ex x, δ') => some (.ex x, δ')
  | some (.ok s, δ') => match evForL tg body (srItems s) δ' with
    | none => none
    | some (o, δ2) => some (o, srBack s δ2)
theorem Pin.sub {pn pn' : List Nat} {σ σ' : St} (h : Pin pn' σ σ') (s : ∀ i ∈ pn, i ∈ pn') : Pin pn σ σ' := ⟨h.1, fun i m => h.2 i (s i m)⟩
/-- the wants within a loop over what is lent -/
theorem WantS.lent {S : Nat → AS} {Dn : Ends} {σ : St} {H : Hp} {Z : AS} {FS : Nat → AS} {δ : DS} {i : Nat} {d : D} {pn' : List Nat} {o : Out} {δ2 : DS} (sr : SR G Z S H δ σ FS) (e : δ[i]? = some (some d)) (hi : i ∈ pn') (hp : ∀ j ∈ pn, j ∈ pn')
    (w : WantS G W S pn Dn σ H Z FS (o, δ2.set i (some d))) : WantS G W (fun j x => S j x ∨ (j = i ∧ FS i x)) pn' Dn σ H Z (fun j x => j ≠ i ∧ FS j x) (o, δ2) := by
  have un := fun {H' : Hp} {Z' : AS} {δ' : DS} {σ' : St} {FS' : Nat → AS} (r' : SR G Z' (fun j x => S j x ∨ (j = i ∧ FS i x)) H' δ' σ' FS') (st : Step H Z (Own fun j x => j ≠ i ∧ FS j x) H' Z' (Own FS')) (pw : Pin pn' σ σ') => sr.unlend e r' st (pw.2 i hi)
  refine ⟨fun δ' e' σ' H' Z' FS' p => ?_, fun δ' e' σ' H' Z' FS' p => ?_, fun δ' e' σ' H' Z' FS' p => ?_, fun d' δ' e' v σ' H' Z' FS' A p => ?_, fun x δ' e' c dd σ' H' Z' FS' p => ?_⟩
  · cases e'
    obtain ⟨a, b⟩ := un p.sr p.st p.pn
    exact w.nx _ rfl σ' H' Z' _ ⟨a, b, p.pn.sub hp⟩
  · cases e'
    obtain ⟨a, b⟩ := un p.sr p.st p.pn
    exact w.bk _ rfl σ' H' Z' _ ⟨a, b, p.pn.sub hp⟩
  · cases e'
    obtain ⟨a, b⟩ := un p.sr p.st p.pn
    exact w.ct _ rfl σ' H' Z' _ ⟨a, b, p.pn.sub hp⟩
  · cases e'
    obtain ⟨a, b⟩ := un p.sr (p.st.sub fun _ z => .inl z) p.pn
    have nS : ∀ x, A x → ¬ FS i x := fun x hx z => (p.vl.2 x hx).2.1 ⟨i, .inr ⟨rfl, z⟩⟩
    refine w.rt _ _ rfl v σ' H' Z' _ A ⟨a, ?_, ⟨p.vl.1, fun x hx => ⟨(p.vl.2 x hx).1, fun ⟨j, z⟩ => (p.vl.2 x hx).2.1 ⟨j, .inl z⟩, fun ⟨j, z⟩ => ?_⟩⟩, p.pn.sub hp⟩
    · refine { b with pnew := fun x z => ?_ }
      rcases z with z | z
      · exact b.pnew x z
      · rcases p.st.pnew x (.inr z) with ⟨j, _, q⟩ | q
        · exact .inl ⟨j, q⟩
        · exact .inr q
    · rcases z with ⟨_, z⟩ | ⟨_, z⟩
      · exact nS x hx z
      · exact (p.vl.2 x hx).2.2 ⟨j, z⟩
  · cases e'
    obtain ⟨a, b⟩ := un p.sr p.st p.pn
    exact w.ex x _ rfl c dd σ' H' Z' _ ⟨a, b, p.xr, p.pn.sub hp⟩
theorem WantS.pin {S : Nat → AS} {D : Ends} {σ : St} {H : Hp} {Z : AS} {FS : Nat → AS} {pn' : List Nat} {r : ES} (hp : ∀ j ∈ pn, j ∈ pn') (w : WantS G W S pn D σ H Z FS r) : WantS G W S pn' D σ H Z FS r :=
  ⟨fun δ' e' σ' H' Z' FS' p => w.nx δ' e' σ' H' Z' FS' ⟨p.sr, p.st, p.pn.sub hp⟩, fun δ' e' σ' H' Z' FS' p => w.bk δ' e' σ' H' Z' FS' ⟨p.sr, p.st, p.pn.sub hp⟩, fun δ' e' σ' H' Z' FS' p => w.ct δ' e' σ' H' Z' FS' ⟨p.sr, p.st, p.pn.sub hp⟩,
    fun d' δ' e' v σ' H' Z' FS' A p => w.rt d' δ' e' v σ' H' Z' FS' A ⟨p.sr, p.st, p.vl, p.pn.sub hp⟩, fun x δ' e' c dd σ' H' Z' FS' p => w.ex x δ' e' c dd σ' H' Z' FS' ⟨p.sr, p.st, p.xr, p.pn.sub hp⟩⟩
theorem rd_for {qt : Bool} {pn' : List Nat} {fs : DS → Option EI} {tg : D → DS → Option DS} {body : DS → Option ES} {wi : TI} {g : TG} {tb : TS} (hi : ∀ σ H R, rdI G W qt fs σ H R → wi σ H R) (htg : TgOk G n pn' tg g) (hb : ∀ D σ H, rdS G W n pn' body D σ H → tb D σ H)
    (hp : ∀ j ∈ pn, j ∈ pn') (hrt : ∀ δ i d xs δ', fs δ = some (.ok (.lent i d xs), δ') → i ∈ pn') : ∀ D σ H, rdS G W n pn (evFor fs tg body) D σ H → tFor wi g tb D σ H := by
  rintro D σ H ⟨hn, δ, Z, S, FS, sr, r, hr, w⟩
  unfold evFor at hr
  refine hi σ H _ ⟨δ, Z, S, FS, sr, ?_, fun s δ' h J H' Z' FS' p => ?_, fun x δ' h c dd H' Z' FS' p => ?_⟩
  · cases q : fs δ with
    | none => rw [q] at hr; cases hr
    | some w => exact ⟨w, rfl⟩
  · rw [h] at hr
    simp only at hr
    obtain ⟨δ1, FS1, T, pb, sj, tk, sr', hm⟩ := p.ex
    cases q : evForL tg body (srItems s) δ' with
    | none => rw [q] at hr; cases hr
    | some q2 =>
      obtain ⟨o, δ2⟩ := q2
      rw [q] at hr
      cases hr
      have w1 : WantS G W S pn D σ H' Z' FS1 (o, srBack s δ2) := w.back pb.s
      cases s with
      | all xs =>
        obtain ⟨rfl, rfl⟩ := hm
        exact rd_loop sj htg hb hn sr' (fun _ z => z) (fun _ _ _ e => e) (fun a z => (tk a z).1) (fun a z => (tk a z).2) q (w1.pin hp)
      | lent i d xs =>
        obtain ⟨ei, rfl, rfl⟩ := hm
        exact rd_loop sj htg hb hn sr' (fun _ z => z) (fun _ _ _ e => e) (fun a z => (tk a z).1) (fun a z => (tk a z).2) q (w1.lent pb.sr ei (hrt _ _ _ _ _ h) hp)
  · rw [h] at hr; cases hr
    exact w.ex x _ rfl c dd σ H' Z' FS' p.q
end
end PD
/-! P, part 10: list comprehensions. -/
namespace PD
open PySem L2

def wipeD : List Nat → DS → DS
  | [], δ => δ
  | v :: vs, δ => (wipeD vs δ).set v none
/-- the slots vs as they were -/
def backD : List Nat → DS → DS → DS
  | [], _, δ => δ
  | v :: vs, δ0, δ => (backD vs δ0 δ).set v ((δ0[v]?).getD none)
def evCmp (tg : D → DS → Option DS) (t : DS → Option EB) (f : DS → Option ER) (vs : List Nat) : List D → List D → DS → Option (List D × DS)
  | [], acc, δ => some (acc, δ)
  | d :: r, acc, δ => match tg d δ with
    | none => none
    | some δ1 => match t δ1 with
      | some (.ok b, δ2) => if b = true then match f δ2 with
          | some (.ok y, δ3) => if acc.length < 1000000 then evCmp tg t f vs r (acc ++ [cap y]) (wipeD vs δ3) else none
          | _ => none
        else evCmp tg t f vs r acc (wipeD vs δ2)
      | _ => none
def evLc (fs : DS → Option EI) (tg : D → DS → Option DS) (t : DS → Option EB) (f : DS → Option ER) (vs : List Nat) : DS → Option ER := fun δ => match fs δ with
  | none => none
  | some (.ex x, δ') => some (.ex x, δ')
  | some (.ok s, δ') => match evCmp tg t f vs (srItems s) [] (wipeD vs δ') with
    | none => none
    | some (acc, δ2) => some (.ok (.lst .o acc), srBack s (backD vs δ' δ2))
/-- the places that are not the comprehension's own -/
def outside (n : Nat) (vs : List Nat) : List Nat := (List.range n).filter fun i => !vs.contains i
theorem mem_outside {n : Nat} {vs : List Nat} {i : Nat} : i ∈ outside n vs ↔ i < n ∧ i ∉ vs := by
  unfold outside
  rw [List.mem_filter, List.mem_range]
  simp
theorem wipeD_len (δ : DS) : ∀ vs, (wipeD vs δ).length = δ.length
  | [] => rfl
  | v :: vs => by rw [wipeD, List.length_set, wipeD_len δ vs]
theorem wipeD_in {δ : DS} : ∀ {vs : List Nat} {i : Nat} {d : D}, i ∈ vs → (wipeD vs δ)[i]? ≠ some (some d)
  | v :: vs, i, d, h => by
    intro e
    rw [wipeD] at e
    rcases set_at e with ⟨hj, e2⟩ | ⟨hj, e2⟩
    · cases e2
    · exact wipeD_in ((List.mem_cons.mp h).resolve_left hj) e2
theorem wipeD_out {δ : DS} : ∀ {vs : List Nat} {i : Nat}, i ∉ vs → (wipeD vs δ)[i]? = δ[i]?
  | [], _, _ => rfl
  | v :: vs, i, h => by
    rw [wipeD, List.getElem?_set_ne (fun e => h (by rw [e]; exact List.mem_cons_self))]
    exact wipeD_out fun q => h (List.mem_cons_of_mem _ q)
theorem backD_len (δ0 δ : DS) : ∀ vs, (backD vs δ0 δ).length = δ.length
  | [] => rfl
  | v :: vs => by rw [backD, List.length_set, backD_len δ0 δ vs]
theorem backD_out {δ0 δ : DS} : ∀ {vs : List Nat} {i : Nat}, i ∉ vs → (backD vs δ0 δ)[i]? = δ[i]?
  | [], _, _ => rfl
  | v :: vs, i, h => by
    rw [backD, List.getElem?_set_ne (fun e => h (by rw [e]; exact List.mem_cons_self))]
    exact backD_out fun q => h (List.mem_cons_of_mem _ q)
theorem backD_in {δ0 δ : DS} : ∀ {vs : List Nat} {i : Nat}, i ∈ vs → i < δ.length → (backD vs δ0 δ)[i]? = some ((δ0[i]?).getD none)
  | v :: vs, i, h, hl => by
    rw [backD]
    by_cases e : i = v
    · subst e
      rw [List.getElem?_set_self (by rw [backD_len]; exact hl)]
    · rw [List.getElem?_set_ne (Ne.symm e)]
      exact backD_in ((List.mem_cons.mp h).resolve_left e) hl
theorem wipe_eq {σ σ2 : St} {n : Nat} {vs : List Nat} (h1 : σ.length = n) (h2 : σ2.length = n) (h : ∀ i, i < n → i ∉ vs → σ2[i]? = (wipe σ vs)[i]?) : wipe σ2 vs = wipe σ vs := by
  have win : ∀ (σ : St) (vs : List Nat) (i : Nat), i ∈ vs → i < σ.length → (wipe σ vs)[i]? = some none := by
    intro σ vs
    induction vs with
    | nil => intro i h; simp at h
    | cons v vs ih =>
      intro i h hl
      rw [wipe]
      by_cases e : i = v
      · subst e; rw [List.getElem?_set_self (by rw [wipe_length]; exact hl)]
      · rw [List.getElem?_set_ne (Ne.symm e)]
        exact ih i ((List.mem_cons.mp h).resolve_left e) hl
  refine List.ext_getElem? fun i => ?_
  by_cases hn : i < n
  · by_cases hv : i ∈ vs
    · rw [win σ2 vs i hv (by omega), win σ vs i hv (by omega)]
    · rw [wipe_out hv, h i hn hv]
  · rw [List.getElem?_eq_none (by rw [wipe_length]; omega), List.getElem?_eq_none (by rw [wipe_length]; omega)]
section
variable {G : GC} {W : WX} {X : Cx} {n : Nat} {pn : List Nat}
theorem SR.wipe {Z : AS} {S : Nat → AS} {H : Hp} {δ : DS} {σ : St} {FS : Nat → AS} (r : SR G Z S H δ σ FS) (vs : List Nat) : SR G Z S H (wipeD vs δ) (L2.wipe σ vs) (fun j x => j ∉ vs ∧ FS j x) where
  len := by rw [wipeD_len, wipe_length]; exact r.len
  slot := fun j d e => by
    by_cases h : j ∈ vs
    · exact absurd e (wipeD_in h)
    · rw [wipeD_out h] at e
      obtain ⟨v, ev, rp⟩ := r.slot j d e
      exact ⟨v, by rw [wipe_out h]; exact ev, rp.congr fun x => ⟨fun q => q.2, fun q => ⟨h, q⟩⟩⟩
  empt := fun j h x q => by
    refine r.empt j (fun d e => h d ?_) x q.2
    rw [wipeD_out q.1]; exact e
  disj := fun j k x a b => r.disj j k x a.2 b.2
  zs := r.zs
  ss := r.ss
  nz := fun a ⟨j, q⟩ => r.nz a ⟨j, q.2⟩
/-- an object of nobody's may change -/
theorem SR.other {Z : AS} {S : Nat → AS} {H : Hp} {δ : DS} {σ : St} {FS : Nat → AS} {a : Addr} {o : HO} (r : SR G Z S H δ σ FS) (h1 : ¬ Z a) (h2 : ¬ Own S a) (h3 : ¬ Own FS a) : SR G Z S (upd H a o) δ σ FS where
  len := r.len
  slot := fun i d e => by
    obtain ⟨v, ev, rp⟩ := r.slot i d e
    refine ⟨v, ev, rp.mono (fun _ z => z) (fun _ z => z) fun b z u eu => ?_⟩
    rw [upd_ne]; exact eu
    rintro rfl
    rcases z with z | z | z
    · exact h1 z
    · exact h2 ⟨i, z⟩
    · exact h3 ⟨i, z⟩
  empt := r.empt
  disj := r.disj
  zs := fun b z => by
    obtain ⟨u, e⟩ := r.zs b z
    exact ⟨u, by rw [upd_ne (by rintro rfl; exact h1 z)]; exact e⟩
  ss := fun b z => by
    obtain ⟨u, e⟩ := r.ss b z
    exact ⟨u, by rw [upd_ne (by rintro rfl; exact h2 z)]; exact e⟩
  nz := r.nz
/-- the own names of a block as they were -/
theorem SR.unwipe {Z Z' : AS} {S : Nat → AS} {H H' : Hp} {δ δ' : DS} {σ : St} {FS FS' : Nat → AS} {vs : List Nat} (r : SR G Z S H δ σ FS) (r' : SR G Z' S H' δ' (L2.wipe σ vs) FS')
    (st : Step H Z (Own fun j x => j ∉ vs ∧ FS j x) H' Z' (Own FS')) :
    SR G Z' S H' (backD vs δ δ') σ (fun j x => (j ∈ vs ∧ FS j x) ∨ (j ∉ vs ∧ FS' j x)) ∧ Step H Z (Own FS) H' Z' (Own fun j x => (j ∈ vs ∧ FS j x) ∨ (j ∉ vs ∧ FS' j x)) := by
  have notP : ∀ i x, i ∈ vs → FS i x → ¬ Own (fun j x => j ∉ vs ∧ FS j x) x := fun i x hi h ⟨j, hj, q⟩ => hj (r.disj j i x q h ▸ hi)
  have apart : ∀ i j x, i ∈ vs → FS' j x → FS i x → False := fun i j x hi a b => by
    rcases st.pnew x ⟨j, a⟩ with z | z
    · exact notP i x hi b z
    · obtain ⟨o, e⟩ := r.own x ⟨i, b⟩; rw [z] at e; cases e
  have hlen : δ'.length = δ.length := by rw [r'.len, wipe_length, r.len]
  refine ⟨⟨by rw [backD_len, hlen]; exact r.len, fun j w ew => ?_, fun j h x q => ?_, fun j k x a b => ?_, r'.zs, r'.ss, fun a ⟨j, q⟩ => ?_⟩, ?_⟩
  · by_cases hj : j ∈ vs
    · have hl : j < δ'.length := by
        have := (List.getElem?_eq_some_iff.mp ew).1
        rw [backD_len] at this; exact this
      rw [backD_in hj hl] at ew
      have hl2 : j < δ.length := by omega
      have e2 : δ[j]? = some (some w) := by
        have : δ[j]? = some δ[j] := by simp [hl2]
        rw [this] at ew
        simp at ew
        rw [this, ew]
      obtain ⟨v, ev, rp⟩ := r.slot j w e2
      refine ⟨v, ev, (rp.mono st.zin (fun _ z => z) fun a z o ea => st.keep a o ea fun q => ?_).congr fun x => ⟨fun q => q.elim (fun z => z.2) fun z => (z.1 hj).elim, fun q => .inl ⟨hj, q⟩⟩⟩
      obtain ⟨k, hk, q⟩ := q
      rcases z with z | z | z
      · exact (r.nz a ⟨k, q⟩).1 z
      · exact (r.nz a ⟨k, q⟩).2 ⟨_, z⟩
      · exact hk (r.disj k _ a q z ▸ hj)
    · rw [backD_out hj] at ew
      obtain ⟨u, eu, rp'⟩ := r'.slot j w ew
      rw [wipe_out hj] at eu
      exact ⟨u, eu, rp'.congr fun x => ⟨fun q => q.elim (fun z => (hj z.1).elim) fun z => z.2, fun q => .inr ⟨hj, q⟩⟩⟩
  · rcases q with ⟨hj, q⟩ | ⟨hj, q⟩
    · refine r.empt j (fun w ew => h w ?_) x q
      have hl : j < δ.length := (List.getElem?_eq_some_iff.mp ew).1
      rw [backD_in hj (by omega), ew]; rfl
    · refine r'.empt j (fun w ew => h w ?_) x q
      rw [backD_out hj]; exact ew
  · rcases a with ⟨hj, a⟩ | ⟨hj, a⟩ <;> rcases b with ⟨hk, b⟩ | ⟨hk, b⟩
    · exact r.disj j k x a b
    · exact (apart j k x hj b a).elim
    · exact (apart k j x hk a b).elim
    · exact r'.disj j k x a b
  · rcases q with ⟨hj, q⟩ | ⟨hj, q⟩
    · refine ⟨fun z => ?_, (r.nz a ⟨j, q⟩).2⟩
      rcases st.znew a z with z | z | z
      · exact (r.nz a ⟨j, q⟩).1 z
      · exact notP j a hj q z
      · obtain ⟨o, e⟩ := r.own a ⟨j, q⟩; rw [z] at e; cases e
    · exact r'.nz a ⟨j, q⟩
  · refine ⟨fun a o ea q => st.keep a o ea fun ⟨j, _, z⟩ => q ⟨j, z⟩, st.there, st.zin, fun a z => (st.znew a z).imp id (·.imp (fun ⟨j, _, q⟩ => ⟨j, q⟩) id), fun a ⟨j, q⟩ => ?_⟩
    rcases q with ⟨_, q⟩ | ⟨_, q⟩
    · exact .inl ⟨j, q⟩
    · exact (st.pnew a ⟨j, q⟩).imp (fun ⟨k, _, q⟩ => ⟨k, q⟩) id
theorem own_and {p : Nat → Prop} {FS : Nat → AS} {x : Addr} : Own (fun j x => p j ∧ FS j x) x → Own FS x := fun ⟨j, _, z⟩ => ⟨j, z⟩
/-- the captured value of an expression -/
theorem PostE.cap {S : Nat → AS} {qt : Bool} {σ : St} {H : Hp} {Z : AS} {FS : Nat → AS} {d : D} {δ' : DS} {v : V} {H' : Hp} {Z' : AS} {FS' : Nat → AS} {A : AS} (p : PostE G S false qt σ H Z FS d δ' v H' Z' FS' A) :
    RepF G (fun x => Z' x ∨ A x) H' (PD.cap d) v ∧ SR G (fun x => Z' x ∨ A x) S H' δ' σ FS' ∧ Step H Z (Own FS) H' (fun x => Z' x ∨ A x) (Own FS') := by
  have vl := p.vl
  rw [if_neg Bool.false_ne_true] at vl
  refine ⟨?_, p.sr.more fun x t => ⟨vl.1.own x t, (vl.2 x t).2⟩, ⟨p.st.keep, p.st.there, fun a z => .inl (p.st.zin a z), fun a z => ?_, fun a z => p.st.pnew a (.inl z)⟩⟩
  · unfold PD.cap
    by_cases hF : isF d = true
    · rw [if_pos hF]; exact (vl.1.frozen hF).1.mono (fun _ z => .inl z) fun _ _ _ e => e
    · rw [if_neg hF]; exact vl.1.freeze
  · rcases z with z | z
    · exact p.st.znew a z
    · exact (p.st.pnew a (.inr z)).elim (fun q => .inr (.inl q)) fun q => .inr (.inr q)
theorem fin {H H1 H2 : Hp} {Z Z1 Z2 P P1 P2 : AS} {L : Addr} (s2 : Step H Z P H2 Z2 P2) (s1 : Step H Z P H1 Z1 P1) (hL : H1 L = none) : Step H Z P H2 Z2 (fun x => P2 x ∨ x = L) := by
  refine { s2 with pnew := fun a z => z.elim (s2.pnew a) fun e => ?_ }
  subst e
  refine .inr ?_
  cases e : H a with
  | none => rfl
  | some o => obtain ⟨o', e'⟩ := s1.there a o e; rw [hL] at e'; cases e'
abbrev W0 : WX := fun _ _ _ _ => False
/-- [e for target in source if test] -/
theorem rd_lc {q1 q2 q3 : Bool} {fs : DS → Option EI} {tg : D → DS → Option DS} {t : DS → Option EB} {f : DS → Option ER} {vs : List Nat} {wi : TI} {g : TG} {tt : TT} {te : TE} (hi : ∀ σ H R, rdI G W q1 fs σ H R → wi σ H R) (htg : TgOk G n (outside n vs) tg g)
    (ht : ∀ σ H Q, rdT G W0 q2 t σ H Q → tt σ H Q) (hf : ∀ σ H Q, rdE G W0 false q3 f σ H Q → te σ H Q) (hrt : ∀ δ i d xs δ', fs δ = some (.ok (.lent i d xs), δ') → i ∉ vs) :
    ∀ σ H Q, σ.length = n → rdE G W false false (evLc fs tg t f vs) σ H Q → tLc wi g tt te vs σ H Q := by
  rintro σ H0 Q hn ⟨δ, Z, S, FS, sr, ⟨w, hev⟩, ok, ex⟩
  unfold evLc at hev ok ex
  refine hi σ H0 _ ⟨δ, Z, S, FS, sr, ?_, fun s δ1 h J H1 Z1 FS1 p => ?_, fun x δ' h => ?_⟩
  · cases q : fs δ with
    | none => rw [q] at hev; cases hev
    | some w => exact ⟨w, rfl⟩
  · rw [h] at hev ok
    simp only at hev ok
    obtain ⟨δ0, FS0, T, pb, sj, tk, sr1, hm⟩ := p.ex
    cases q : evCmp tg t f vs (srItems s) [] (wipeD vs δ1) with
    | none => rw [q] at hev; cases hev
    | some q2 =>
      obtain ⟨accF, δF⟩ := q2
      rw [q] at ok
      intro L hL
      have srw := sr1.wipe vs
      have nL1 : ¬ Z1 L := fun z => by obtain ⟨o, e⟩ := sr1.zs L z; rw [hL] at e; cases e
      have nL2 : ¬ Own (srS S FS0 s) L := fun z => by obtain ⟨o, e⟩ := sr1.ss L z; rw [hL] at e; cases e
      have nL3 : ¬ Own (fun j x => j ∉ vs ∧ FS1 j x) L := fun z => by obtain ⟨o, e⟩ := srw.own L z; rw [hL] at e; cases e
      refine ⟨fun i m H => m + i = (srItems s).length ∧ ∃ δ2 Z2 FS2 acc vacc, SR G Z2 (srS S FS0 s) H δ2 (L2.wipe σ vs) FS2 ∧ H L = some (.lst vacc) ∧ El (RepF G Z2 H) acc vacc ∧ ¬ Z2 L ∧ ¬ Own FS2 L ∧ Step H1 Z1 (Own fun j x => j ∉ vs ∧ FS1 j x) H Z2 (Own FS2) ∧
        evCmp tg t f vs ((srItems s).drop i) acc δ2 = some (accF, δF),
        ⟨(srItems s).length, rfl, wipeD vs δ1, Z1, _, [], [], srw.same (same_upd hL), upd_same, ⟨rfl, fun i x y e => by simp at e⟩, nL1, nL3, Step.same (same_upd hL) fun _ z => .inl z, by simpa using q⟩, ?_⟩
      rintro i m H ⟨hm1, δ2, Z2, FS2, acc, vacc, sr2, eL, ela, nZ, nF, st, hr⟩
      have keepZ : ∀ a, (Z1 a ∨ T a) → ∀ o, H1 a = some o → H a = some o := fun a z o e => st.keep a o e fun ⟨j, hj, q⟩ => by
        rcases z with z | z
        · exact (sr1.nz a ⟨j, q⟩).1 z
        · exact (tk a z).2 ⟨j, q⟩
      by_cases hlt : i < (srItems s).length
      · refine .inr ⟨sj.go Z2 H i st.zin keepZ hlt, _, fun H' q => ⟨m - 1, by omega, q⟩, fun x H' y => ?_⟩
        obtain ⟨rfl, yd⟩ := sj.yld Z2 H i x H' st.zin keepZ y
        have ei : (srItems s)[i]? = some (srItems s)[i] := by simp [hlt]
        rw [List.drop_eq_getElem_cons hlt, evCmp] at hr
        cases e1 : tg (srItems s)[i] δ2 with
        | none => rw [e1] at hr; cases hr
        | some δ3 =>
          rw [e1] at hr
          simp only at hr
          refine htg _ x Z2 _ H' δ2 _ FS2 δ3 (by rw [wipe_length]; exact hn) sr2 (yd _ ei) e1 _ fun σ3 FS3 sr3 o3 p3 => ?_
          have eqw : L2.wipe σ3 vs = L2.wipe σ vs := wipe_eq hn (by rw [p3.1, wipe_length]; exact hn) fun i h1 h2 => p3.2 i (mem_outside.mpr ⟨h1, h2⟩)
          refine ⟨eqw, ?_⟩
          have st3 := st.trans ((Step.refl H' Z2 (Own FS2)).sub o3)
          have nF3 : ¬ Own FS3 L := fun z => nF (o3 L z)
          -- the next turn, from a state with the block's names still set
          have next : ∀ {H4 : Hp} {δ4 : DS} {Z4 : AS} {FS4 : Nat → AS} {acc' : List D} {vacc' : List V}, SR G Z4 (srS S FS0 s) H4 δ4 σ3 FS4 → H4 L = some (.lst vacc') → El (RepF G Z4 H4) acc' vacc' → ¬ Z4 L → ¬ Own FS4 L → Step H1 Z1 (Own fun j x => j ∉ vs ∧ FS1 j x) H4 Z4 (Own FS4) →
              evCmp tg t f vs ((srItems s).drop (i + 1)) acc' (wipeD vs δ4) = some (accF, δF) → (m - 1 + (i + 1) = (srItems s).length ∧ ∃ δ2 Z2 FS2 acc vacc, SR G Z2 (srS S FS0 s) H4 δ2 (L2.wipe σ vs) FS2 ∧ H4 L = some (.lst vacc) ∧ El (RepF G Z2 H4) acc vacc ∧ ¬ Z2 L ∧ ¬ Own FS2 L ∧ Step H1 Z1 (Own fun j x => j ∉ vs ∧ FS1 j x) H4 Z2 (Own FS2) ∧
                evCmp tg t f vs ((srItems s).drop (i + 1)) acc δ2 = some (accF, δF)) := fun {H4 δ4 Z4 FS4 acc' vacc'} a b c d e g k => by
            refine ⟨by omega, wipeD vs δ4, Z4, fun j x => j ∉ vs ∧ FS4 j x, acc', vacc', ?_, b, c, d, fun z => e (own_and z), g.sub fun x z => own_and z, k⟩
            have := a.wipe vs
            rw [eqw] at this
            exact this
          refine ht σ3 H' _ ⟨δ3, Z2, _, FS3, sr3, ?_, fun b δ4 h4 H4 Z4 FS4 p4 => ?_, fun x δ4 h4 => ?_⟩
          · cases q : t δ3 with
            | none => rw [q] at hr; cases hr
            | some w => exact ⟨w, rfl⟩
          · rw [h4] at hr
            simp only at hr
            have kL : H4 L = some (.lst vacc) := p4.st.keep L _ eL nF3
            have nZ4 : ¬ Z4 L := fun z => by
              rcases p4.st.znew L z with z | z | z
              · exact nZ z
              · exact nF3 z
              · rw [z] at eL; cases eL
            have nF4 : ¬ Own FS4 L := fun z => (p4.st.pnew L z).elim nF3 fun q => by rw [q] at eL; cases eL
            have el4 : El (RepF G Z4 H4) acc vacc := ⟨ela.1, fun j x y e1 e2 => (ela.2 j x y e1 e2).step p4.st fun a z => (sr3.nz a z).1⟩
            cases b with
            | false =>
              rw [if_neg Bool.false_ne_true]
              rw [if_neg Bool.false_ne_true] at hr
              exact next p4.sr kL el4 nZ4 nF4 (st3.trans p4.st) hr
            | true =>
              rw [if_pos rfl]
              rw [if_pos rfl] at hr
              refine hf σ3 H4 _ ⟨δ4, Z4, _, FS4, p4.sr, ?_, fun d δ5 h5 v H5 Z5 FS5 A p5 => ?_, fun x δ5 h5 => ?_⟩
              · cases q : f δ4 with
                | none => rw [q] at hr; cases hr
                | some w => exact ⟨w, rfl⟩
              · rw [h5] at hr
                simp only at hr
                by_cases hz : acc.length < 1000000
                · rw [if_pos hz] at hr
                  obtain ⟨rf, srC, stC⟩ := p5.cap
                  have kL5 : H5 L = some (.lst vacc) := stC.keep L _ kL nF4
                  have nZ5 : ¬ (Z5 L ∨ A L) := fun z => by
                    rcases stC.znew L z with z | z | z
                    · exact nZ4 z
                    · exact nF4 z
                    · rw [z] at kL; cases kL
                  have nF5 : ¬ Own FS5 L := fun z => (stC.pnew L z).elim nF4 fun q => by rw [q] at kL; cases kL
                  have nS5 : ¬ Own (srS S FS0 s) L := nL2
                  have el5 : El (RepF G (fun x => Z5 x ∨ A x) H5) (acc ++ [PD.cap d]) (vacc ++ [v]) := by
                    refine ⟨by simp [el4.1], app_at el4.1 (fun j x y e1 e2 => (el4.2 j x y e1 e2).step stC fun a z => (p4.sr.nz a z).1) fun j x y e1 e2 => ?_⟩
                    cases j with
                    | zero => simp at e1 e2; subst e1 e2; exact rf
                    | succ j => simp at e1
                  refine ⟨vacc, kL5, by have := el4.1; rw [sizeLine_eq]; omega, ?_⟩
                  have ne : ∀ a, (Z5 a ∨ A a) → a ≠ L := fun a z e => nZ5 (e ▸ z)
                  refine next (srC.other nZ5 nS5 nF5) upd_same ⟨el5.1, fun j x y e1 e2 => (el5.2 j x y e1 e2).mono (fun _ z => z) fun a z o e => by rw [upd_ne (ne a z)]; exact e⟩ nZ5 nF5 ?_ hr
                  have s5 := (st3.trans p4.st).trans stC
                  refine ⟨fun a o e n => ?_, fun a o e => ?_, s5.zin, s5.znew, s5.pnew⟩
                  · rw [upd_ne]; exact s5.keep a o e n
                    rintro rfl; rw [hL] at e; cases e
                  · by_cases hq : a = L
                    · rw [hq]; exact ⟨_, upd_same⟩
                    · rw [upd_ne hq]; exact s5.there a o e
                · rw [if_neg hz] at hr; cases hr
              · rw [h5] at hr; cases hr
          · rw [h4] at hr; cases hr
      · have ei : i = (srItems s).length := by omega
        subst ei
        rw [List.drop_length] at hr
        cases hr
        refine .inl ⟨sj.stop Z2 H st.zin keepZ, ?_⟩
        obtain ⟨srb, stb⟩ := sr1.unwipe sr2 st
        have nB : ¬ Own (fun j x => (j ∈ vs ∧ FS1 j x) ∨ (j ∉ vs ∧ FS2 j x)) L := fun ⟨j, z⟩ => by
          rcases z with ⟨_, z⟩ | ⟨_, z⟩
          · obtain ⟨o, e⟩ := sr1.own L ⟨j, z⟩; rw [hL] at e; cases e
          · exact nF ⟨j, z⟩
        have rL : Rep G Z2 S0 H (.lst .o accF) (.ref L) (fun x => x = L) := .lo eL ela.1 ela.2 fun _ => Iff.rfl
        cases s with
        | all xs =>
          obtain ⟨rfl, rfl⟩ := hm
          refine ok _ _ rfl (.ref L) H Z2 _ (fun x => x = L) ⟨srb, ?_, ?_, fun q => absurd q Bool.false_ne_true⟩
          · exact fin (pb.st.trans stb) pb.st hL
          · rw [if_neg Bool.false_ne_true]
            exact ⟨rL, fun x e => by subst e; exact ⟨nZ, nL2, nB⟩⟩
        | lent i d xs =>
          obtain ⟨ei, rfl, rfl⟩ := hm
          obtain ⟨src, stc⟩ := pb.sr.unlend ei srb stb rfl
          have nS : ¬ Own S L := fun z => by obtain ⟨o, e⟩ := pb.sr.ss L z; rw [hL] at e; cases e
          have nC : ¬ Own (fun j x => (j = i ∧ FS0 i x) ∨ (j ≠ i ∧ ((j ∈ vs ∧ (j ≠ i ∧ FS0 j x)) ∨ (j ∉ vs ∧ FS2 j x)))) L := fun ⟨j, z⟩ => by
            rcases z with ⟨_, z⟩ | ⟨_, z⟩
            · obtain ⟨o, e⟩ := pb.sr.own L ⟨i, z⟩; rw [hL] at e; cases e
            · exact nB ⟨j, z⟩
          refine ok _ _ rfl (.ref L) H Z2 _ (fun x => x = L) ⟨src, ?_, ?_, fun q => absurd q Bool.false_ne_true⟩
          · exact fin (pb.st.trans stc) pb.st hL
          · rw [if_neg Bool.false_ne_true]
            exact ⟨rL, fun x e => by subst e; exact ⟨nZ, nS, nC⟩⟩
  · rw [h] at ex
    exact ex x δ' rfl
end
end PD
/-! P, part 11: own functions. -/
namespace PD
open PySem L2

/-- what a function does: data in, an answer and what its parameters hold behind it -/
abbrev FD := List D → Option ER
def spF (G : GC) (F : FD) : Sp := fun vs H Q E => ∃ ds Z S FS, SR G Z S H (ds.map some) (vs.map some) FS ∧ (∃ r, F ds = some r) ∧
  (∀ d δ', F ds = some (.ok d, δ') → ∀ v H' Z' FS' A, PostE G S false false (vs.map some) H Z FS d δ' v H' Z' FS' A → Q v H') ∧
  (∀ x δ', F ds = some (.ex x, δ') → ∀ c dd H' Z' FS', PostX G S (vs.map some) H Z FS x δ' c dd H' Z' FS' → E c dd H')
/-- arguments: views are lent, the others frozen -/
def argD : List Bool → List D → List D
  | k :: ks, d :: ds => (if k then lend d else cap d) :: argD ks ds
  | _, _ => []
def evCall (F : FD) (ks : List Bool) (dds : List D) (fa : DS → Option EA) : DS → Option ER := fun δ => match fa δ with
  | none => none
  | some (.ex x, δ') => some (.ex x, δ')
  | some (.ok ds, δ') => match F (argD ks ds ++ dds) with
    | none => none
    | some (.ex x, _) => some (.ex x, δ')
    | some (.ok d, _) => some (.ok d, δ')
def hd0 (δ : DS) : Option D := (δ[0]?).getD none
/-- the first argument is a name, and what it holds is changed -/
def evCallM (F : FD) (i : Nat) (ks : List Bool) (dds : List D) (fr : DS → Option EA) : DS → Option ER := fun δ => match δ[i]? with
  | some (some _) => match fr δ with
    | none => none
    | some (.ex x, δ') => some (.ex x, δ')
    | some (.ok ds, δ') => match δ'[i]? with
      | some (some d) => if capOk ks ds then match F (d :: (ds.map cap ++ dds)) with
        | none => none
        | some (.ex x, δr) => some (.ex x, δ'.set i (hd0 δr))
        | some (.ok r, δr) => some (.ok r, δ'.set i (hd0 δr)) else none
      | _ => none
  | _ => none
def outD (np : Nat) (m : Bool) (δ : DS) : DS := if m then hd0 δ :: List.replicate (np - 1) none else List.replicate np none
def fnOf (n np : Nat) (m : Bool) (ev : DS → Option ES) : FD := fun ds => if ds.length = np then
    match ev (ds.map some ++ List.replicate (n - np) none) with
    | some (.rt d, δ) => some (.ok d, outD np m δ)
    | some (.nx, δ) => some (.ok .non, outD np m δ)
    | some (.ex x, δ) => some (.ex x, outD np m δ)
    | _ => none
  else none
theorem fnOf_len {n np : Nat} {m : Bool} {ev : DS → Option ES} {ds : List D} {r : ER} (h : fnOf n np m ev ds = some r) : ds.length = np := by
  unfold fnOf at h
  by_cases e : ds.length = np
  · exact e
  · rw [if_neg e] at h; cases h
/-- written scalars, in each heap -/
def Cst (G : GC) (dds : List D) (dvs : List V) : Prop := ∀ Z H, El (RepF G Z H) dds dvs

section
variable {G : GC} {W : WX}
theorem argD_len : ∀ {ks : List Bool} {ds : List D}, ks.length = ds.length → (argD ks ds).length = ds.length
  | [], [], _ => rfl
  | k :: ks, d :: ds, h => by simp [argD, argD_len (ks := ks) (ds := ds) (by simpa using h)]
theorem argD_at : ∀ {ks : List Bool} {ds : List D} {j : Nat} {e : D}, (argD ks ds)[j]? = some e → ∃ k d, ks[j]? = some k ∧ ds[j]? = some d ∧ e = if k then lend d else cap d
  | [], _, j, e, h => by simp [argD] at h
  | k :: ks, [], j, e, h => by simp [argD] at h
  | k :: ks, d :: ds, 0, e, h => by simp [argD] at h; exact ⟨k, d, rfl, rfl, h.symm⟩
  | k :: ks, d :: ds, j + 1, e, h => by
    obtain ⟨k', d', h1, h2, h3⟩ := argD_at (ks := ks) (ds := ds) (by simpa [argD] using h)
    exact ⟨k', d', by simpa using h1, by simpa using h2, h3⟩
theorem cap_rep {Z : AS} {H : Hp} {d : D} {v : V} {A : AS} (r : Rep G Z S0 H d v A) : RepF G (fun x => Z x ∨ A x) H (cap d) v := by
  unfold cap
  by_cases hF : isF d = true
  · rw [if_pos hF]; exact (r.frozen hF).1.mono (fun _ z => .inl z) fun _ _ _ e => e
  · rw [if_neg hF]; exact r.freeze
theorem app_some {α : Type} {xs ys : List α} {j : Nat} {e : α} (h : (xs ++ ys)[j]? = some e) : (j < xs.length ∧ xs[j]? = some e) ∨ (xs.length ≤ j ∧ ys[j - xs.length]? = some e) := by
  by_cases hj : j < xs.length
  · rw [List.getElem?_append_left hj] at h; exact .inl ⟨hj, h⟩
  · rw [List.getElem?_append_right (by omega)] at h; exact .inr ⟨by omega, h⟩
theorem mapsome {α : Type} {xs : List α} {j : Nat} {e : α} (h : (xs.map some)[j]? = some (some e)) : xs[j]? = some e := by
  obtain ⟨x, e1, e2⟩ := getMap h
  rw [e1, Option.some.inj e2]
/-- the callee's slots: all lent or frozen -/
theorem SR.args {Z : AS} {S : Nat → AS} {H : Hp} {δ : DS} {σ : St} {FS : Nat → AS} {ks : List Bool} {ds dds : List D} {vs dvs : List V} {B : Nat → AS} (sr : SR G Z S H δ σ FS) (ar : ArgR G Z (Own S) H FS ks ds vs B) (hd : Cst G dds dvs) :
    SR G (fun x => Z x ∨ Tm ks B x) (fun j x => ks[j]? = some true ∧ (Own S x ∨ B j x)) H ((argD ks ds ++ dds).map some) ((vs ++ dvs).map some) (fun _ => S0) where
  len := by
    have := (hd S0 H).1
    have := ar.l1
    have := ar.l2
    simp [argD_len ar.l2]; omega
  slot := fun j e he => by
    have he := mapsome he
    have lA := argD_len ar.l2
    rcases app_some he with ⟨hj, he⟩ | ⟨hj, he⟩
    · obtain ⟨k, d, ek, ed, rfl⟩ := argD_at he
      have hv : j < vs.length := by rw [← ar.l1]; exact (List.getElem?_eq_some_iff.mp ed).1
      have ev : vs[j]? = some vs[j] := by simp [hv]
      have rp := ar.rep j d vs[j] k ed ev ek
      refine ⟨vs[j], by rw [List.getElem?_map, List.getElem?_append_left hv, ev]; rfl, ?_⟩
      cases k with
      | true =>
        rw [if_pos rfl] at rp ⊢
        exact rp.1.lent.mono (fun _ z => .inl z) (fun x z => ⟨ek, z⟩) fun _ _ _ e => e
      | false =>
        rw [if_neg Bool.false_ne_true] at rp ⊢
        exact .fz ((cap_rep rp.1).mono (fun x z => z.imp id fun q => ⟨j, ek, q⟩) fun _ _ _ e => e) fun _ z => z
    · obtain ⟨l1, h1⟩ := hd (fun x => Z x ∨ Tm ks B x) H
      have hj2 : j - (argD ks ds).length < dvs.length := by rw [← l1]; exact (List.getElem?_eq_some_iff.mp he).1
      have e2 : dvs[j - (argD ks ds).length]? = some dvs[j - (argD ks ds).length] := by simp [hj2]
      refine ⟨dvs[j - (argD ks ds).length], ?_, .fz (h1 _ e _ he e2) fun _ z => z⟩
      have lv : vs.length = (argD ks ds).length := by rw [lA]; exact ar.l1.symm
      rw [List.getElem?_map, List.getElem?_append_right (by omega), lv, e2]
      rfl
  empt := fun _ _ _ z => z
  disj := fun _ _ _ z => z.elim
  zs := fun a z => z.elim (sr.zs a) fun q => (Tm.out ar a q).1
  ss := fun a ⟨j, hk, q⟩ => by
    rcases q with q | q
    · exact sr.ss a q
    · have hj : j < ks.length := (List.getElem?_eq_some_iff.mp hk).1
      have hd : j < ds.length := by rw [← ar.l2]; exact hj
      have hv : j < vs.length := by rw [← ar.l1]; exact hd
      have rp := ar.rep j ds[j] vs[j] true (by simp [hd]) (by simp [hv]) hk
      rw [if_pos rfl] at rp
      exact rp.1.own a q
  nz := fun a ⟨_, z⟩ => z.elim
theorem noOwn0 {x : Addr} : ¬ Own (fun _ => S0) x := fun ⟨_, z⟩ => z
/-- the caller's state behind a call that changes nothing -/
theorem SR.called {Z Z1 Z2 P2 : AS} {S : Nat → AS} {H H2 : Hp} {δ : DS} {σ : St} {FS : Nat → AS} (sr : SR G Z S H δ σ FS) (st : Step H Z1 (Own fun _ => S0) H2 Z2 P2) (h1 : ∀ x, Z x → Z1 x) (h2 : ∀ x, Z1 x → Z x ∨ ((∃ o, H x = some o) ∧ ¬ Own S x ∧ ¬ Own FS x)) (zs : ∀ a, Z2 a → ∃ o, H2 a = some o) : SR G Z2 S H2 δ σ FS where
  len := sr.len
  slot := fun i d e => let ⟨v, ev, rp⟩ := sr.slot i d e; ⟨v, ev, rp.mono (fun x z => st.zin x (h1 x z)) (fun _ z => z) fun a _ o e => st.keep a o e noOwn0⟩
  empt := sr.empt
  disj := sr.disj
  zs := zs
  ss := fun a z => let ⟨o, e⟩ := sr.ss a z; ⟨o, st.keep a o e noOwn0⟩
  nz := fun a z => by
    refine ⟨fun q => ?_, (sr.nz a z).2⟩
    rcases st.znew a q with q | q | q
    · rcases h2 a q with q | q
      · exact (sr.nz a z).1 q
      · exact q.2.2 z
    · exact noOwn0 q
    · obtain ⟨o, e⟩ := sr.own a z; rw [q] at e; cases e
theorem rd_call {F : FD} {ks : List Bool} {qt : Bool} {dds : List D} {dvs : List V} {fa : DS → Option EA} {tr : TA} (hd : Cst G dds dvs) (ha : ∀ σ H Q, rdA G W ks qt fa σ H Q → tr σ H Q) :
    ∀ σ H Q, rdE G W false qt (evCall F ks dds fa) σ H Q → tCallSD (spF G F) dvs (fun σ => WE W σ) tr σ H Q := by
  rintro σ H Q ⟨δ, Z, S, FS, sr, ⟨w, hf⟩, ok, ex⟩
  unfold evCall at hf ok ex
  refine ha σ H _ ⟨δ, Z, S, FS, sr, ?_, fun ds δ' h vs H' Z' FS' B p => ?_, fun x δ' h => ?_⟩
  · cases q : fa δ with
    | none => rw [q] at hf; cases hf
    | some w => exact ⟨w, rfl⟩
  · rw [h] at hf ok ex
    simp only at hf ok ex
    have tm := fun x t => Tm.out p.ar x t
    refine ⟨argD ks ds ++ dds, _, _, _, p.sr.args p.ar hd, ?_, fun d δr hF v H2 Z2 FS2 A p2 => ?_, fun x δr hF c dd H2 Z2 FS2 p2 => ?_⟩
    · cases q : F (argD ks ds ++ dds) with
      | none => rw [q] at hf; cases hf
      | some w => exact ⟨w, rfl⟩
    · rw [hF] at ok
      have vl := p2.vl
      rw [if_neg Bool.false_ne_true] at vl
      have nA : ∀ x, A x → H' x = none := fun x a => (p2.st.pnew x (.inr a)).elim (fun q => (noOwn0 q).elim) id
      refine ok d δ' rfl v H2 Z2 FS' A ⟨p.sr.called p2.st (fun _ z => .inl z) (fun x z => z.imp id fun q => ⟨(tm x q).1, (tm x q).2.2⟩) p2.sr.zs, ?_, ?_, fun q => ?_⟩
      · refine p.st.trans ⟨fun a o e _ => p2.st.keep a o e noOwn0, p2.st.there, fun a z => p2.st.zin a (.inl z), fun a z => ?_, fun a z => z.elim (fun q => .inl (.inl q)) fun q => .inr (nA a q)⟩
        rcases p2.st.znew a z with (z | z) | z | z
        · exact .inl z
        · exact .inr (.inl (.inr z))
        · exact (noOwn0 z).elim
        · exact .inr (.inr z)
      · rw [if_neg Bool.false_ne_true]
        refine ⟨vl.1, fun x a => ⟨(vl.2 x a).1, fun z => ?_, fun z => ?_⟩⟩
        · obtain ⟨o, e⟩ := p.sr.ss x z; rw [nA x a] at e; cases e
        · obtain ⟨o, e⟩ := p.sr.own x z; rw [nA x a] at e; cases e
      · obtain ⟨b, c⟩ := p.qq q
        exact ⟨b, c.trans fun a o e => p2.st.keep a o e noOwn0⟩
    · rw [hF] at ex
      refine ex x δ' rfl c dd H2 Z2 FS' ⟨p.sr.called p2.st (fun _ z => .inl z) (fun x z => z.imp id fun q => ⟨(tm x q).1, (tm x q).2.2⟩) p2.sr.zs, ?_, p2.xr⟩
      refine p.st.trans ⟨fun a o e _ => p2.st.keep a o e noOwn0, p2.st.there, fun a z => p2.st.zin a (.inl z), fun a z => ?_, fun a z => .inl (.inl z)⟩
      rcases p2.st.znew a z with (z | z) | z | z
      · exact .inl z
      · exact .inr (.inl (.inr z))
      · exact (noOwn0 z).elim
      · exact .inr (.inr z)
  · rw [h] at ex
    exact ex x δ' rfl
/-- the callee's slots where the first one is handed over -/
theorem SR.argsM {Z : AS} {S : Nat → AS} {H : Hp} {δ : DS} {σ : St} {FS : Nat → AS} {i : Nat} {d0 : D} {v0 : V} {ks : List Bool} {ds dds : List D} {vs dvs : List V} {B : Nat → AS} (sr : SR G Z S H δ σ FS) (e0 : δ[i]? = some (some d0)) (ev0 : σ[i]? = some (some v0))
    (ar : ArgR G Z (Own S) H FS ks ds vs B) (hc : capOk ks ds = true) (hd : Cst G dds dvs) :
    SR G (fun x => Z x ∨ Tm ks B x) (fun j x => j = 0 ∧ S i x) H ((d0 :: (ds.map cap ++ dds)).map some) ((v0 :: vs ++ dvs).map some) (fun j x => j = 0 ∧ FS i x) where
  len := by
    have := (hd S0 H).1
    have := ar.l1
    simp; omega
  slot := fun j e he => by
    have he := mapsome he
    cases j with
    | zero =>
      simp at he
      subst he
      obtain ⟨v, ev, rp⟩ := sr.slot i d0 e0
      rw [ev0] at ev
      cases ev
      exact ⟨v0, rfl, (rp.mono (fun _ z => .inl z) (fun x z => ⟨rfl, z⟩) fun _ _ _ e => e).congr fun x => ⟨fun q => q.2, fun q => ⟨rfl, q⟩⟩⟩
    | succ j =>
      have he : (ds.map cap ++ dds)[j]? = some e := by simpa using he
      rcases app_some he with ⟨hj, he⟩ | ⟨hj, he⟩
      · have hv : j < vs.length := by rw [← ar.l1]; simpa using hj
        have ev : vs[j]? = some vs[j] := by simp [hv]
        refine ⟨vs[j], ?_, .fz (caps ar hc j e vs[j] he ev) fun x z => by simp at z⟩
        show ((v0 :: (vs ++ dvs)).map some)[j + 1]? = _
        rw [List.map_cons, List.getElem?_cons_succ, List.getElem?_map, List.getElem?_append_left hv, ev]; rfl
      · obtain ⟨l1, h1⟩ := hd (fun x => Z x ∨ Tm ks B x) H
        have hj2 : j - (ds.map cap).length < dvs.length := by rw [← l1]; exact (List.getElem?_eq_some_iff.mp he).1
        have e2 : dvs[j - (ds.map cap).length]? = some dvs[j - (ds.map cap).length] := by simp [hj2]
        refine ⟨dvs[j - (ds.map cap).length], ?_, .fz (h1 _ e _ he e2) fun x z => by simp at z⟩
        have lv : vs.length = (ds.map cap).length := by rw [List.length_map]; exact ar.l1.symm
        show ((v0 :: (vs ++ dvs)).map some)[j + 1]? = _
        rw [List.map_cons, List.getElem?_cons_succ, List.getElem?_map, List.getElem?_append_right (by omega), lv, e2]; rfl
  empt := fun j h x z => by
    obtain ⟨rfl, z⟩ := z
    exact h d0 rfl
  disj := fun j k x z z' => by rw [z.1, z'.1]
  zs := fun a z => z.elim (sr.zs a) fun q => (Tm.out ar a q).1
  ss := fun a ⟨j, _, q⟩ => sr.ss a ⟨i, q⟩
  nz := fun a ⟨j, _, q⟩ => ⟨fun z => z.elim (sr.nz a ⟨i, q⟩).1 fun t => (Tm.out ar a t).2.2.2 ⟨i, q⟩, fun ⟨_, _, z⟩ => (sr.nz a ⟨i, q⟩).2 ⟨i, z⟩⟩
/-- the caller's state behind a call that changes what slot i holds -/
theorem SR.calledM {Z Z1 Z2 : AS} {S : Nat → AS} {H H2 : Hp} {δ δr : DS} {σ σc : St} {FS FS2 : Nat → AS} {i : Nat} {v0 : V} {d0 : D} {P2 : AS} (sr : SR G Z S H δ σ FS) (e0 : δ[i]? = some (some d0)) (ev0 : σ[i]? = some (some v0)) (ec : σc[0]? = some (some v0)) (st : Step H Z1 (Own fun j x => j = 0 ∧ FS i x) H2 Z2 P2) (hP : ∀ x, Own FS2 x → P2 x)
    (h1 : ∀ x, Z x → Z1 x) (h2 : ∀ x, Z1 x → Z x ∨ ((∃ o, H x = some o) ∧ ¬ Own S x ∧ ¬ Own FS x)) (r2 : SR G Z2 (fun j x => j = 0 ∧ S i x) H2 δr σc FS2) :
    SR G Z2 S H2 (δ.set i (hd0 δr)) σ (fun j x => (j = i ∧ FS2 0 x) ∨ (j ≠ i ∧ FS j x)) := by
  have hil : i < δ.length := (List.getElem?_eq_some_iff.mp e0).1
  have new : ∀ x, FS2 0 x → FS i x ∨ H x = none := fun x q => (st.pnew x (hP x ⟨0, q⟩)).imp (fun ⟨_, _, z⟩ => z) id
  have notP : ∀ j x, j ≠ i → FS j x → ¬ Own (fun j x => j = 0 ∧ FS i x) x := fun j x hj q ⟨_, _, z⟩ => hj (sr.disj j i x q z)
  refine ⟨by rw [List.length_set]; exact sr.len, fun j w ew => ?_, fun j h x q => ?_, fun j k x a b => ?_, r2.zs, fun a z => ?_, fun x ⟨j, q⟩ => ?_⟩
  · rcases set_at ew with ⟨hj, ew2⟩ | ⟨hj, ew2⟩
    · subst hj
      have e : δr[0]? = some (some w) := by
        unfold hd0 at ew2
        cases q : δr[0]? with
        | none => rw [q] at ew2; cases ew2
        | some u => rw [q] at ew2; exact congrArg some ew2
      obtain ⟨v, ev, rp⟩ := r2.slot 0 w e
      rw [ec] at ev
      cases ev
      exact ⟨v0, ev0, (rp.mono (fun _ z => z) (fun x z => z.2) fun _ _ _ e => e).congr fun x => ⟨fun q => q.elim (fun z => z.2) fun z => (z.1 rfl).elim, fun q => .inl ⟨rfl, q⟩⟩⟩
    · obtain ⟨v, ev, rp⟩ := sr.slot j w ew2
      refine ⟨v, ev, (rp.mono (fun x z => st.zin x (h1 x z)) (fun _ z => z) fun a z o e => st.keep a o e fun ⟨_, _, q⟩ => ?_).congr fun x => ⟨fun q => q.elim (fun z => (hj z.1).elim) fun z => z.2, fun q => .inr ⟨hj, q⟩⟩⟩
      rcases z with z | z | z
      · exact (sr.nz a ⟨i, q⟩).1 z
      · exact (sr.nz a ⟨i, q⟩).2 ⟨j, z⟩
      · exact hj (sr.disj j i a z q)
  · rcases q with ⟨hj, q⟩ | ⟨hj, q⟩
    · subst hj
      refine r2.empt 0 (fun w ew => h w ?_) x q
      rw [List.getElem?_set_self hil]
      unfold hd0; rw [ew]; rfl
    · refine sr.empt j (fun w ew => h w ?_) x q
      rw [List.getElem?_set_ne (Ne.symm hj)]; exact ew
  · rcases a with ⟨hj, a⟩ | ⟨hj, a⟩ <;> rcases b with ⟨hk, b⟩ | ⟨hk, b⟩
    · rw [hj, hk]
    · rcases new x a with z | z
      · exact (hk (sr.disj k i x b z)).elim
      · obtain ⟨o, e⟩ := sr.own x ⟨k, b⟩; rw [z] at e; cases e
    · rcases new x b with z | z
      · exact (hj (sr.disj j i x a z)).elim
      · obtain ⟨o, e⟩ := sr.own x ⟨j, a⟩; rw [z] at e; cases e
    · exact sr.disj j k x a b
  · obtain ⟨o, e⟩ := sr.ss a z
    exact ⟨o, st.keep a o e fun ⟨_, _, q⟩ => (sr.nz a ⟨i, q⟩).2 z⟩
  · rcases q with ⟨_, q⟩ | ⟨hj, q⟩
    · refine ⟨(r2.nz x ⟨0, q⟩).1, fun z => ?_⟩
      rcases new x q with y | y
      · exact (sr.nz x ⟨i, y⟩).2 z
      · obtain ⟨o, e⟩ := sr.ss x z; rw [y] at e; cases e
    · refine ⟨fun z => ?_, (sr.nz x ⟨j, q⟩).2⟩
      rcases st.znew x z with z | z | z
      · rcases h2 x z with z | z
        · exact (sr.nz x ⟨j, q⟩).1 z
        · exact z.2.2 ⟨j, q⟩
      · exact notP j x hj q z
      · obtain ⟨o, e⟩ := sr.own x ⟨j, q⟩; rw [z] at e; cases e
theorem rd_callM {F : FD} {i : Nat} {ks : List Bool} {qt : Bool} {dds : List D} {dvs : List V} {fr : DS → Option EA} {tr : TA} (hd : Cst G dds dvs) (ha : ∀ σ H Q, rdA G W ks qt fr σ H Q → tr σ H Q) :
    ∀ σ H Q, rdE G W false false (evCallM F i ks dds fr) σ H Q → tCallSD (spF G F) dvs (fun σ => WE W σ) (tCons (tVar i) tr) σ H Q := by
  rintro σ H Q ⟨δ, Z, S, FS, sr, ⟨w, hf⟩, ok, ex⟩
  unfold evCallM at hf ok ex
  cases e : δ[i]? with
  | none => rw [e] at hf; cases hf
  | some q =>
    cases q with
    | none => rw [e] at hf; cases hf
    | some dold =>
      simp only [e] at hf ok ex
      obtain ⟨v0, ev0, _⟩ := sr.slot i dold e
      refine ⟨v0, ev0, ?_⟩
      refine ha σ H _ ⟨δ, Z, S, FS, sr, ?_, fun ds δ' h vs H' Z' FS' B p => ?_, fun x δ' h => ?_⟩
      · cases q : fr δ with
        | none => rw [q] at hf; cases hf
        | some w => exact ⟨w, rfl⟩
      · rw [h] at hf ok ex
        simp only at hf ok ex
        cases e2 : δ'[i]? with
        | none => rw [e2] at hf; cases hf
        | some q2 =>
          cases q2 with
          | none => rw [e2] at hf; cases hf
          | some d0 =>
            simp only [e2] at hf ok ex
            by_cases hc : capOk ks ds = true
            · rw [if_pos hc] at hf ok ex
              have tm := fun x t => Tm.out p.ar x t
              have up : ∀ x, Own (fun j x => j = 0 ∧ FS' i x) x → Own FS' x ∨ Tm ks B x := fun x ⟨_, _, z⟩ => .inl ⟨i, z⟩
              have h2 : ∀ x, (Z' x ∨ Tm ks B x) → Z' x ∨ ((∃ o, H' x = some o) ∧ ¬ Own S x ∧ ¬ Own FS' x) := fun x z => z.imp id fun q => ⟨(tm x q).1, (tm x q).2.2⟩
              have big : ∀ {H2 : Hp} {Z2 P2 : AS} {FS2 : Nat → AS} {A : AS}, Step H' (fun x => Z' x ∨ Tm ks B x) (Own fun j x => j = 0 ∧ FS' i x) H2 Z2 (fun x => Own FS2 x ∨ A x) →
                  Step H' Z' (fun x => Own FS' x ∨ Tm ks B x) H2 Z2 (fun x => Own (fun j x => (j = i ∧ FS2 0 x) ∨ (j ≠ i ∧ FS' j x)) x ∨ A x) := fun {H2 Z2 P2 FS2 A} st => by
                refine ⟨fun a o e n => st.keep a o e fun z => n (up a z), st.there, fun a z => st.zin a (.inl z), fun a z => ?_, fun a z => ?_⟩
                · rcases st.znew a z with (z | z) | z | z
                  · exact .inl z
                  · exact .inr (.inl (.inr z))
                  · exact .inr (.inl (up a z))
                  · exact .inr (.inr z)
                · rcases z with ⟨j, ⟨_, z⟩ | ⟨_, z⟩⟩ | z
                  · exact (st.pnew a (.inl ⟨0, z⟩)).imp (up a) id
                  · exact .inl (.inl ⟨j, z⟩)
                  · exact (st.pnew a (.inr z)).imp (up a) id
              refine ⟨d0 :: (ds.map cap ++ dds), _, _, _, p.sr.argsM e2 ev0 p.ar hc hd, ?_, fun d δr hF v H2 Z2 FS2 A p2 => ?_, fun x δr hF c dd H2 Z2 FS2 p2 => ?_⟩
              · cases q : F (d0 :: (ds.map cap ++ dds)) with
                | none => rw [q] at hf; cases hf
                | some w => exact ⟨w, rfl⟩
              · rw [hF] at ok
                have vl := p2.vl
                rw [if_neg Bool.false_ne_true] at vl
                refine ok d _ rfl v H2 Z2 _ A ⟨p.sr.calledM e2 ev0 rfl p2.st (fun x z => .inl z) (fun _ z => .inl z) h2 p2.sr, p.st.trans (big (P2 := S0) p2.st), ?_, fun q => absurd q Bool.false_ne_true⟩
                rw [if_neg Bool.false_ne_true]
                refine ⟨vl.1, fun x a => ⟨(vl.2 x a).1, fun z => ?_, fun ⟨j, z⟩ => ?_⟩⟩
                · rcases p2.st.pnew x (.inr a) with ⟨_, _, q⟩ | q
                  · exact (p.sr.nz x ⟨i, q⟩).2 z
                  · obtain ⟨o, e⟩ := p.sr.ss x z; rw [q] at e; cases e
                · rcases z with ⟨_, z⟩ | ⟨hj, z⟩
                  · exact (vl.2 x a).2.2 ⟨0, z⟩
                  · rcases p2.st.pnew x (.inr a) with ⟨_, _, q⟩ | q
                    · exact hj (p.sr.disj j i x z q)
                    · obtain ⟨o, e⟩ := p.sr.own x ⟨j, z⟩; rw [q] at e; cases e
              · rw [hF] at ex
                have st2 : Step H' (fun x => Z' x ∨ Tm ks B x) (Own fun j x => j = 0 ∧ FS' i x) H2 Z2 (fun x => Own FS2 x ∨ S0 x) := p2.st.sub fun a z => z.elim id fun q => q.elim
                exact ex x _ rfl c dd H2 Z2 _ ⟨p.sr.calledM e2 ev0 rfl p2.st (fun x z => z) (fun _ z => .inl z) h2 p2.sr, (p.st.trans (big (P2 := S0) st2)).sub fun a z => .inl z, p2.xr⟩
            · rw [if_neg hc] at hf; cases hf
      · rw [h] at ex
        exact ex x δ' rfl
/-- a function's body keeps its promise -/
theorem rd_fn {n np : Nat} {m : Bool} {ev : DS → Option ES} {t : TS} {N : List Str} {vs : List V} {H : Hp} {Q : VK} {E : XK} (hN : N.length = n) (hnp : np ≤ n) (hm : m = true → 0 < np)
    (hs : ∀ D σ H, rdS G (fun c dd _ H => E c dd H) n (if m = true then [0] else []) ev D σ H → t D σ H) (h : spF G (fnOf n np m ev) vs H Q E) : t { nx := fun _ H' => Q .non H', rt := Q } (start N vs) H := by
  obtain ⟨ds, Z, S, FS, sr, ⟨r, hr⟩, ok, ex⟩ := h
  have l1 := fnOf_len hr
  have l2 : ds.length = vs.length := by simpa using sr.len
  have hst : start N vs = vs.map some ++ List.replicate (n - vs.length) none := by rw [← hN]; rfl
  have srs : SR G Z S H (ds.map some ++ List.replicate (n - np) none) (start N vs) FS := by
    rw [hst]
    refine ⟨by simp; omega, fun i d e => ?_, fun i h x z => ?_, sr.disj, sr.zs, sr.ss, sr.nz⟩
    · rcases app_some e with ⟨hi, e⟩ | ⟨hi, e⟩
      · obtain ⟨v, ev, rp⟩ := sr.slot i d e
        have hv : i < (vs.map some).length := by simpa [← l2] using hi
        exact ⟨v, by rw [List.getElem?_append_left hv]; exact ev, rp⟩
      · have := List.getElem?_eq_some_iff.mp e
        obtain ⟨_, q⟩ := this
        simp at q
    · refine sr.empt i (fun d e => h d ?_) x z
      have hi : i < (ds.map some).length := (List.getElem?_eq_some_iff.mp e).1
      rw [List.getElem?_append_left hi]; exact e
  unfold fnOf at hr ok ex
  rw [if_pos l1] at hr ok ex
  -- the state at the end, seen by the caller
  have out : ∀ {δ' : DS} {σ' : St} {H' : Hp} {Z' : AS} {FS' : Nat → AS}, SR G Z' S H' δ' σ' FS' → Pin (if m = true then [0] else []) (start N vs) σ' → SR G Z' S H' (outD np m δ') (vs.map some) (fun j x => (m = true ∧ j = 0) ∧ FS' 0 x) := fun {δ' σ' H' Z' FS'} r p => by
    have rep : ∀ {k : Nat} {j : Nat} {d : D}, (List.replicate k (none : Option D))[j]? = some (some d) → False := fun {k j d} e => by
      obtain ⟨_, q⟩ := List.getElem?_eq_some_iff.mp e
      simp at q
    refine ⟨?_, fun j d e => ?_, fun j h x z => ?_, fun j k x a b => by rw [a.1.2, b.1.2], r.zs, r.ss, fun x ⟨j, z⟩ => r.nz x ⟨0, z.2⟩⟩
    · unfold outD
      cases hm' : m with
      | true => have := hm hm'; simp; omega
      | false => simp; omega
    · unfold outD at e
      cases hm' : m with
      | false => rw [hm', if_neg Bool.false_ne_true] at e; exact (rep e).elim
      | true =>
        rw [hm', if_pos rfl] at e
        cases j with
        | succ j => exact (rep (by simpa using e)).elim
        | zero =>
          simp at e
          have e1 : δ'[0]? = some (some d) := by
            unfold hd0 at e
            cases q : δ'[0]? with
            | none => rw [q] at e; cases e
            | some u => rw [q] at e; exact congrArg some e
          obtain ⟨v, ev, rp⟩ := r.slot 0 d e1
          rw [hm', if_pos rfl] at p
          have := p.2 0 (by simp)
          rw [ev, hst] at this
          have hv : 0 < (vs.map some).length := by have := hm hm'; simp; omega
          rw [List.getElem?_append_left hv] at this
          exact ⟨v, this.symm, rp.congr fun x => ⟨fun q => q.2, fun q => ⟨⟨rfl, rfl⟩, q⟩⟩⟩
    · obtain ⟨⟨hm', rfl⟩, z⟩ := z
      refine r.empt 0 (fun d e => h d ?_) x z
      unfold outD
      rw [if_pos hm']
      show some (hd0 δ') = _
      unfold hd0; rw [e]; rfl
  have own : ∀ {FS' : Nat → AS} x, Own (fun j x => (m = true ∧ j = 0) ∧ FS' 0 x) x → Own FS' x := fun x ⟨_, _, z⟩ => ⟨0, z⟩
  cases q : ev (ds.map some ++ List.replicate (n - np) none) with
  | none => rw [q] at hr; cases hr
  | some w =>
    rw [q] at hr ok ex
    refine hs _ _ H ⟨by rw [hst]; simp; omega, _, Z, S, FS, srs, w, q, ?_⟩
    obtain ⟨o, δo⟩ := w
    cases o with
    | bk => cases hr
    | ct => cases hr
    | nx =>
      refine ⟨fun δ' e' σ' H' Z' FS' p => ?_, fun _ e' => (by cases e'), fun _ e' => (by cases e'), fun _ _ e' => (by cases e'), fun _ _ e' => (by cases e')⟩
      cases e'
      refine ok .non _ rfl .non H' Z' _ S0 ⟨out p.sr p.pn, p.st.sub fun a z => z.elim (own a) fun q => q.elim, ?_, fun q => absurd q Bool.false_ne_true⟩
      rw [if_neg Bool.false_ne_true]
      exact ⟨.fz .non fun _ z => z, fun x z => z.elim⟩
    | rt d =>
      refine ⟨fun _ e' => (by cases e'), fun _ e' => (by cases e'), fun _ e' => (by cases e'), fun d δ' e' v σ' H' Z' FS' A p => ?_, fun _ _ e' => (by cases e')⟩
      cases e'
      refine ok d _ rfl v H' Z' _ A ⟨out p.sr p.pn, p.st.sub fun a z => z.imp (own a) id, ?_, fun q => absurd q Bool.false_ne_true⟩
      rw [if_neg Bool.false_ne_true]
      exact ⟨p.vl.1, fun x a => ⟨(p.vl.2 x a).1, (p.vl.2 x a).2.1, fun z => (p.vl.2 x a).2.2 (own x z)⟩⟩
    | ex x =>
      refine ⟨fun _ e' => (by cases e'), fun _ e' => (by cases e'), fun _ e' => (by cases e'), fun _ _ e' => (by cases e'), fun x δ' e' c dd σ' H' Z' FS' p => ?_⟩
      cases e'
      exact ex x _ rfl c dd H' Z' _ ⟨out p.sr p.pn, p.st.sub fun a z => own a z, p.xr⟩
end
end PD
/-! P, part 12: sorted, sum, max, min, repr, slices. -/
namespace PD
open PySem L2 PyProof.Rows

def leD (a b : D) : Bool := W.dataLe false toP a b
/-- all of one kind, each place, and in an order -/
def tup1 : PyData → Bool
  | .tuple (_ :: _) => true
  | _ => false
def noTup : PyData → Bool
  | .tuple _ => false
  | .none => false
  | _ => true
def sortOk (xs : List D) : Bool := dpL 60 xs && (xs.all fun a => xs.all fun b => W.alike (toP a) (toP b)) && ((xs.all fun a => tup1 (toP a)) || (xs.all fun a => noTup (toP a))) && decide (xs.length ≤ 1000000)
def gSorted : List D → Option D
  | [.lst m xs] => if shal m && sortOk xs then some (.lst .o (xs.mergeSort leD)) else none
  | _ => none
def intsOf : List D → Option (List Int)
  | [] => some []
  | .int i :: r => (intsOf r).map (i :: ·)
  | _ :: _ => none
def gSum : List D → Option D
  | [.lst _ xs] => (intsOf xs).map fun ns => .int ns.sum
  | _ => none
def gMax2 : List D → Option D
  | [.int i, .int j] => some (.int (if j > i then j else i))
  | _ => none
def gMin2 : List D → Option D
  | [.int i, .int j] => some (.int (if j < i then j else i))
  | _ => none
def gRepr : List D → Option D
  | [.bl b] => some (.str (Str.ofString (if b then "True" else "False")))
  | _ => none
section
variable {G : GC} {X : Cx}
theorem intsOf_eq : ∀ {xs : List D} {ns : List Int}, intsOf xs = some ns → xs = ns.map .int
  | [], ns, h => by cases h; rfl
  | .int i :: r, ns, h => by
    rw [intsOf] at h
    cases e : intsOf r with
    | none => rw [e] at h; cases h
    | some m => rw [e] at h; cases h; rw [intsOf_eq e]; rfl
  | .non :: _, _, h => by cases h
  | .bl _ :: _, _, h => by cases h
  | .str _ :: _, _, h => by cases h
  | .tup _ :: _, _, h => by cases h
  | .lst _ _ :: _, _, h => by cases h
  | .dic _ _ :: _, _, h => by cases h
  | .dit _ _ :: _, _, h => by cases h
  | .ins _ _ _ :: _, _, h => by cases h
  | .exc _ _ :: _, _, h => by cases h
theorem ints_V {Z S : AS} {H : Hp} {ns : List Int} {vs : List V} (hl : (ns.map D.int).length = vs.length) (he : ∀ (i : Nat) d w, (ns.map D.int)[i]? = some d → vs[i]? = some w → ∃ B, Rep G Z S H d w B) : vs = ns.map V.int := by
  refine List.ext_getElem? fun i => ?_
  by_cases hi : i < ns.length
  · have h2 : i < vs.length := by rw [← hl]; simpa using hi
    obtain ⟨B, r⟩ := he i (.int ns[i]) vs[i] (by simp [hi]) (by simp [h2])
    have := r.intV
    simp [h2, hi, this]
  · have h2 : ¬ i < vs.length := by rw [← hl]; simpa using hi
    rw [List.getElem?_eq_none (by omega), List.getElem?_eq_none (by simpa using hi)]
theorem ok_sum (h : XO G X) (hc : X.calm = true) : CallOk G X (.builtin "sum") gSum := .of (cr_sum hc) fun xs H Q ⟨Z, S, ds, d, zs, a, e, k⟩ => by
  unfold gSum at e
  split at e
  · rename_i m xs'
    cases q : intsOf xs' with
    | none => rw [q] at e; cases e
    | some ns =>
      rw [q] at e
      cases e
      obtain ⟨_, A, rfl, r1⟩ := argv1 a
      obtain ⟨p, vs, rfl, sq, hl, he, _⟩ := r1.lstV
      rw [← h.K] at sq
      rw [intsOf_eq q] at hl he
      rw [ints_V hl fun i d w e1 e2 => let ⟨B, r, _⟩ := he i d w e1 e2; ⟨B, r⟩] at sq
      exact ⟨p, ns, rfl, sq, k.int⟩
  · cases e
theorem ok_max2 (h : XO G X) (hc : X.calm = true) : CallOk G X (.builtin "max") gMax2 := .of (call_max2 hc) fun xs H Q ⟨Z, S, ds, d, zs, a, e, k⟩ => by
  unfold gMax2 at e
  split at e
  · cases e
    obtain ⟨x', y', A, B, ev, r1, r2⟩ := argv2 a
    cases ev
    rw [r1.intV, r2.intV]
    exact ⟨_, _, rfl, k.int⟩
  · cases e
theorem ok_min2 (h : XO G X) (hc : X.calm = true) : CallOk G X (.builtin "min") gMin2 := .of (call_min2 hc) fun xs H Q ⟨Z, S, ds, d, zs, a, e, k⟩ => by
  unfold gMin2 at e
  split at e
  · cases e
    obtain ⟨x', y', A, B, ev, r1, r2⟩ := argv2 a
    cases ev
    rw [r1.intV, r2.intV]
    exact ⟨_, _, rfl, k.int⟩
  · cases e
theorem ok_repr (h : XO G X) : CallOk G X (.builtin "repr") gRepr := by
  intro pins s σ H xs us Q I rx ⟨Z, S, ds, d, zs, a, e, k⟩
  unfold gRepr at e
  split at e
  · rename_i b
    cases e
    obtain ⟨_, A, rfl, r1⟩ := argv1 a
    rw [r1.blV] at rx
    match us, rx with
    | [u], .cons r .nil =>
      cases r
      refine PySem.P.repr_of_bool ⟨.str _, H, Inv.tok I _, ?_, k.str⟩
      cases b <;> exact ⟨_, rfl⟩
  · cases e
theorem eachIs_of {α β : Type} {R : α → β → Prop} : ∀ {xs : List α} {ys : List β}, xs.length = ys.length → (∀ (i : Nat) x y, xs[i]? = some x → ys[i]? = some y → R x y) → W.EachIs R xs ys
  | [], [], _, _ => .nil
  | x :: xs, y :: ys, hl, h => .cons (h 0 x y rfl rfl) (eachIs_of (by simpa using hl) fun i a b e1 e2 => h (i + 1) a b (by simpa using e1) (by simpa using e2))
  | [], _ :: _, hl, _ => by simp at hl
  | _ :: _, [], hl, _ => by simp at hl
theorem eachIs_vals : ∀ {us : List Value} {bs : List (D × V)}, W.EachIs (fun u b => RelV b.2 u) us bs → Vals (bs.map (·.2)) us
  | _, _, .nil => .nil
  | _, _, .cons r t => .cons r (eachIs_vals t)
theorem zip_at {α β : Type} {xs : List α} {ys : List β} {i : Nat} {p : α × β} (h : (xs.zip ys)[i]? = some p) : xs[i]? = some p.1 ∧ ys[i]? = some p.2 := by
  rw [List.getElem?_zip_eq_some] at h
  exact h
theorem sort_core {pins : List (Addr × Obj)} {σ : L2.St} {H : Hp} {s : Shared} {Z S : AS} {Q : VK} {xs : List D} {vs : List V} {l : Addr} {its : List Value} (h : XO G X) (I : Inv X pins σ H s) (hv : Vals vs its) (hl : xs.length = vs.length) (he : ∀ (i : Nat) d w, xs[i]? = some d → vs[i]? = some w → RepF G Z H d w) (zs : ∀ a, Z a → ∃ o, H a = some o)
    (ho : sortOk xs = true) (k : OkV G Z H (.lst .o (xs.mergeSort leD)) Q) (hL : s.heap.IsList l its.toArray) : wpAny (model X.prog X.w) X.A (call (.builtin "sorted") [.ref l]) (EP X pins σ Q) X.xe s := by
  unfold sortOk at ho
  simp only [Bool.and_eq_true, decide_eq_true_eq] at ho
  obtain ⟨⟨⟨h1, h2⟩, h3⟩, h4⟩ := ho
  rw [dpL_all, List.all_eq_true] at h1
  let bs : List (D × V) := xs.zip vs
  have b1 : bs.map (·.1) = xs := by
    show (xs.zip vs).map Prod.fst = xs
    exact List.map_fst_zip (by omega)
  have b2 : bs.map (·.2) = vs := by
    show (xs.zip vs).map Prod.snd = vs
    exact List.map_snd_zip (by omega)
  have bl : bs.length = xs.length := by rw [← b1, List.length_map]
  have bm : ∀ b ∈ bs, b.1 ∈ xs := fun b hb => by rw [← b1]; exact List.mem_map_of_mem hb
  have brep : ∀ b ∈ bs, RepF G Z H b.1 b.2 := fun b hb => by
    obtain ⟨i, e⟩ := List.mem_iff_getElem?.mp hb
    obtain ⟨e1, e2⟩ := zip_at e
    exact he i b.1 b.2 e1 e2
  have hi : bs.length = its.length := by rw [bl, hl]; exact hv.length
  refine W.sorted_data (β := D × V) (bs := bs) (vs := its) (enc := fun b => toP b.1) (R := fun u b => RelV b.2 u) hL (eachIs_of hi.symm fun i u b e1 e2 => ?_) (eachIs_of hi.symm fun i u b e1 e2 => ?_) ?_ ?_ ?_ ?_ fun out hout eo => ?_
  · obtain ⟨f1, f2⟩ := zip_at e2
    obtain ⟨v, g1, g2⟩ := vals_at hv e1
    rw [f2] at g1; cases g1; exact g2
  · obtain ⟨f1, f2⟩ := zip_at e2
    obtain ⟨v, g1, g2⟩ := vals_at hv e1
    rw [f2] at g1; cases g1
    exact (Rep.fz (S := S) (A := S0) (he i b.1 b.2 f1 f2) fun _ z => z).reads h.K I 60 (h1 _ (List.mem_of_getElem? f1)) g2
  · intro d hd d' hd'
    obtain ⟨b, hb, rfl⟩ := List.mem_map.mp hd
    obtain ⟨b', hb', rfl⟩ := List.mem_map.mp hd'
    rw [List.all_eq_true] at h2
    exact List.all_eq_true.mp (h2 _ (bm b hb)) _ (bm b' hb')
  · rw [Bool.or_eq_true, List.all_eq_true, List.all_eq_true] at h3
    rcases h3 with h3 | h3
    · refine .inl fun d hd => ?_
      obtain ⟨b, hb, rfl⟩ := List.mem_map.mp hd
      have := h3 _ (bm b hb)
      show ∃ x r, toP b.1 = _
      cases q : toP b.1 with
      | tuple l =>
        rw [q] at this
        cases l with
        | nil => simp [tup1] at this
        | cons x r => exact ⟨x, r, rfl⟩
      | _ => rw [q] at this; simp [tup1] at this
    · refine .inr fun d hd => ?_
      obtain ⟨b, hb, rfl⟩ := List.mem_map.mp hd
      have := h3 _ (bm b hb)
      show toP b.1 ≠ _ ∧ _
      cases q : toP b.1 <;> rw [q] at this <;> simp_all [noTup]
  · rw [bl]; exact Nat.le_trans h4 (by decide)
  · intro b hb
    obtain ⟨p1, d1⟩ := dp_plain 60 b.1 (h1 _ (bm b hb))
    have := h.hu
    show X.A.units + 2 + (toP b.1).depth < cLine
    omega
  · obtain ⟨m, ns, _⟩ := I.loc
    obtain ⟨c, _, news, _, keep⟩ := W.sorted_news (h₀ := ({ objs := #[] } : Heap)) (news := []) ⟨ns, fun b o e => by simp [Heap.get?] at e, Nat.zero_le _⟩ (fun p hp => by simp at hp) its out
    have got := (news _ (List.mem_cons_self)).1
    have hle : s.heap.objs.size ≤ s.heap.objs.size + 1 := Nat.le_succ _
    have hnone : H (s.heap.objs.size + 1) = none := I.hok.fresh hle
    have mm : (bs.mergeSort (W.dataLe false fun b => toP b.1)).map (·.1) = xs.mergeSort leD := by
      rw [List.map_mergeSort (r := W.dataLe false fun b : D × V => toP b.1) (s := leD) (f := Prod.fst) fun a _ b _ => rfl, b1]
    have mem : ∀ b ∈ bs.mergeSort (W.dataLe false fun b => toP b.1), b ∈ bs := fun b hb => (List.mergeSort_perm bs _).mem_iff.mp hb
    let ys : List V := (bs.mergeSort (W.dataLe false fun b => toP b.1)).map (·.2)
    have hys : Vals ys out := eachIs_vals eo
    refine ⟨.ref (s.heap.objs.size + 1), upd H (s.heap.objs.size + 1) (.lst ys), Inv.laid I keep hle ?_, rfl, ?_⟩
    · rw [ObjOk.eq_1]
      refine ⟨?_, out, c, hys, got⟩
      have : ys.length = xs.length := by
        show ((bs.mergeSort _).map (·.2)).length = _
        rw [List.length_map, List.length_mergeSort, bl]
      rw [this]; exact Nat.le_trans h4 (by decide)
    · refine k.lst zs ?_ (fun i d w e1 e2 => ?_) hnone
      · rw [← mm, List.length_map]; show _ = ((bs.mergeSort _).map (·.2)).length; rw [List.length_map]
      · rw [← mm] at e1
        obtain ⟨b, f1, rfl⟩ := getMap e1
        obtain ⟨b', f2, rfl⟩ := getMap (show ((bs.mergeSort (W.dataLe false fun b => toP b.1)).map (·.2))[i]? = some w from e2)
        rw [f1] at f2; cases f2
        exact brep b (mem b (List.mem_of_getElem? f1))
theorem ok_sorted (h : XO G X) : CallOk G X (.builtin "sorted") gSorted := by
  intro pins s σ H xs us Q I rx ⟨Z, S, ds, d, zs, a, e, k⟩
  unfold gSorted at e
  split at e
  · split at e
    · rename_i m xs' ho
      rw [Bool.and_eq_true] at ho
      cases e
      obtain ⟨_, A, rfl, r1⟩ := argv1 a
      obtain ⟨p, vs, rfl, sq, hl, _, _, hf⟩ := r1.lstV
      rw [← h.K] at sq
      obtain ⟨its, rv, pl, _⟩ := I.list sq
      match us, rx with
      | [u], .cons r .nil =>
        cases r
        obtain ⟨o, c, g1, g2, _, g3⟩ := pl
        exact sort_core (S := S) h I rv hl (hf ho.1) zs ho.2 k ⟨o, g1, g2, c, g3⟩
    · cases e
  · cases e
end
end PD
/-! P, part 13: lists changed, chains. -/
namespace PD
open PySem L2

/-- name.append(e) -/
def evApp (i : Nat) (f : DS → Option ER) : DS → Option ES := fun δ => match δ[i]? with
  | some (some (.lst _ _)) => match f δ with
    | none => none
    | some (.ex x, δ') => some (.ex x, δ')
    | some (.ok d, δ') => match δ'[i]? with
      | some (some (.lst .o xs)) => if xs.length < 1000000 then some (.nx, δ'.set i (some (.lst .o (xs ++ [cap d])))) else none
      | _ => none
  | _ => none
/-- name[k] = e -/
def evSet (i : Nat) (f fk : DS → Option ER) : DS → Option ES := fun δ => match f δ with
  | none => none
  | some (.ex x, δ') => some (.ex x, δ')
  | some (.ok d, δ') => match δ'[i]? with
    | some (some _) => match fk δ' with
      | none => none
      | some (.ex x, δ2) => some (.ex x, δ2)
      | some (.ok kd, δ2) => match kd, δ2[i]? with
        | .int k, some (some (.lst .o xs)) => match ixN xs.length k with
          | some j => some (.nx, δ2.set i (some (.lst .o (xs.set j (cap d)))))
          | none => none
        | _, _ => none
    | _ => none
/-- a < b < c -/
def evChain (g g' : List D → Option D) (fa fb fc : DS → Option ER) : DS → Option ER := fun δ => match fa δ with
  | none => none
  | some (.ex x, δ1) => some (.ex x, δ1)
  | some (.ok a, δ1) => if !isF a then none else match fb δ1 with
    | none => none
    | some (.ex x, δ2) => some (.ex x, δ2)
    | some (.ok b, δ2) => if !isF b then none else match g [a, b] with
      | some (.bl true) => match fc δ2 with
        | none => none
        | some (.ex x, δ3) => some (.ex x, δ3)
        | some (.ok c, δ3) => if !isF c then none else match g' [b, c] with
          | some (.bl k) => some (.ok (.bl k), δ3)
          | _ => none
      | some (.bl false) => some (.ok (.bl false), δ2)
      | _ => none
section
variable {G : GC} {W : WX} {n : Nat} {pn : List Nat}
/-- what slot i holds is written -/
theorem SR.write {Z : AS} {S : Nat → AS} {H : Hp} {δ : DS} {σ : St} {FS : Nat → AS} {i : Nat} {a : Addr} {o : HO} {v : V} {d' : D} {B : AS} (r : SR G Z S H δ σ FS) (ev : σ[i]? = some (some v)) (ha : FS i a) (hil : i < δ.length) (rp : Rep G Z (S i) (upd H a o) d' v B) (hB : ∀ x, B x → FS i x) :
    SR G Z S (upd H a o) (δ.set i (some d')) σ (fun j x => (j = i ∧ B x) ∨ (j ≠ i ∧ FS j x)) ∧ Step H Z (Own FS) (upd H a o) Z (Own fun j x => (j = i ∧ B x) ∨ (j ≠ i ∧ FS j x)) := by
  have nz := r.nz a ⟨i, ha⟩
  have own : ∀ x, Own (fun j x => (j = i ∧ B x) ∨ (j ≠ i ∧ FS j x)) x → Own FS x := fun x ⟨j, q⟩ => q.elim (fun z => ⟨i, hB x z.2⟩) fun z => ⟨j, z.2⟩
  have there : ∀ x u, H x = some u → ∃ u', upd H a o x = some u' := fun x u e => by
    by_cases h : x = a
    · rw [h]; exact ⟨_, upd_same⟩
    · rw [upd_ne h]; exact ⟨_, e⟩
  refine ⟨⟨by rw [List.length_set]; exact r.len, fun j w ew => ?_, fun j h x q => ?_, fun j k x a b => ?_, fun b z => ?_, fun b z => ?_, fun x z => r.nz x (own x z)⟩, ⟨fun x u e q => ?_, there, fun _ z => z, fun _ z => .inl z, fun x z => .inl (own x z)⟩⟩
  · rcases set_at ew with ⟨hj, ew2⟩ | ⟨hj, ew2⟩
    · cases ew2
      subst hj
      exact ⟨v, ev, rp.congr fun x => ⟨fun q => q.elim (fun z => z.2) fun z => (z.1 rfl).elim, fun q => .inl ⟨rfl, q⟩⟩⟩
    · obtain ⟨u, eu, rp'⟩ := r.slot j w ew2
      refine ⟨u, eu, (rp'.mono (fun _ z => z) (fun _ z => z) fun b z o' e => ?_).congr fun x => ⟨fun q => q.elim (fun z => (hj z.1).elim) fun z => z.2, fun q => .inr ⟨hj, q⟩⟩⟩
      rw [upd_ne]; exact e
      rintro rfl
      rcases z with z | z | z
      · exact nz.1 z
      · exact nz.2 ⟨j, z⟩
      · exact hj (r.disj j i _ z ha)
  · rcases q with ⟨hj, q⟩ | ⟨hj, q⟩
    · subst hj
      exact h d' (by rw [List.getElem?_set_self hil])
    · refine r.empt j (fun w ew => h w ?_) x q
      rw [List.getElem?_set_ne (Ne.symm hj)]; exact ew
  · rcases a with ⟨hj, a⟩ | ⟨hj, a⟩ <;> rcases b with ⟨hk, b⟩ | ⟨hk, b⟩
    · rw [hj, hk]
    · exact (hk (r.disj k i x b (hB x a))).elim
    · exact (hj (r.disj j i x a (hB x b))).elim
    · exact r.disj j k x a b
  · obtain ⟨u, e⟩ := r.zs b z; exact there b u e
  · obtain ⟨u, e⟩ := r.ss b z; exact there b u e
  · rw [upd_ne]; exact e
    rintro rfl
    exact q ⟨i, ha⟩
theorem own_put2 {FS : Nat → AS} {x : Addr} {i : Nat} : True := trivial
/-- an owned list in slot i -/
theorem SR.lstO {Z : AS} {S : Nat → AS} {H : Hp} {δ : DS} {σ : St} {FS : Nat → AS} {i : Nat} {xs : List D} (r : SR G Z S H δ σ FS) (e : δ[i]? = some (some (.lst .o xs))) : ∃ a vs, σ[i]? = some (some (.ref a)) ∧ H a = some (.lst vs) ∧ xs.length = vs.length ∧ (∀ (j : Nat) d w, xs[j]? = some d → vs[j]? = some w → RepF G Z H d w) ∧ ∀ x, FS i x ↔ x = a := by
  obtain ⟨v, ev, rp⟩ := r.slot i _ e
  cases rp with
  | fz h _ => exact absurd (show false = true from frz_of h) Bool.false_ne_true
  | lo h hl he hA => exact ⟨_, _, ev, h, hl, he, hA⟩
theorem rd_app {qt : Bool} {i : Nat} {f : DS → Option ER} {te : TE} (hK : True) (ha : ∀ σ H Q, rdE G W false qt f σ H Q → te σ H Q) : ∀ D σ H, rdS G W n pn (evApp i f) D σ H → tDrop (tBM G.K "list" rAppend (tVar i) (tCons te tNil)) D σ H := by
  rintro D σ H ⟨hn, δ, Z, S, FS, sr, r, hr, w⟩
  unfold evApp at hr
  split at hr
  · rename_i m0 xs0 e0
    obtain ⟨v0, ev0, rp0⟩ := sr.slot i _ e0
    obtain ⟨a0, vs0, rfl, sq0, _⟩ := rp0.lstV
    refine ⟨_, ev0, .inl ⟨rfl, _, sq0⟩, ?_⟩
    refine ha σ H _ ⟨δ, Z, S, FS, sr, ?_, fun d δ' h v H' Z' FS' A p => ?_, fun x δ' h c dd H' Z' FS' p => ?_⟩
    · cases q : f δ with
      | none => rw [q] at hr; cases hr
      | some w => exact ⟨w, rfl⟩
    · rw [h] at hr
      simp only at hr
      split at hr
      · rename_i xs e1
        split at hr
        · rename_i hz
          cases hr
          obtain ⟨rf, srC, stC⟩ := p.cap
          obtain ⟨a, vs, ev, ha', hl, he, hA⟩ := srC.lstO e1
          rw [ev0] at ev
          cases ev
          have nZ := (srC.nz a0 ⟨i, (hA a0).mpr rfl⟩).1
          have hil : i < δ'.length := (List.getElem?_eq_some_iff.mp e1).1
          have keep : ∀ x, (Z' x ∨ A x) → x ≠ a0 := fun x z q => nZ (q ▸ z)
          have rp : Rep G (fun x => Z' x ∨ A x) (S i) (upd H' a0 (.lst (vs ++ [v]))) (.lst .o (xs ++ [cap d])) (.ref a0) (fun x => x = a0) :=
            .lo upd_same (by simp [hl]) (app_at hl (fun j x y e1 e2 => (he j x y e1 e2).mono (fun _ z => z) fun b z o e => by rw [upd_ne (keep b z)]; exact e) fun j x y e1 e2 => by
              cases j with
              | zero =>
                simp at e1 e2
                subst e1 e2
                exact rf.mono (fun _ z => z) fun b z o e => by rw [upd_ne (keep b z)]; exact e
              | succ j => simp at e1) fun _ => Iff.rfl
          obtain ⟨sr2, st2⟩ := srC.write ev0 ((hA a0).mpr rfl) hil rp fun x q => (hA x).mpr q
          refine ⟨a0, vs, v, rfl, rfl, ha', by rw [← hl, sizeLine_eq]; omega, ?_⟩
          exact w.nx _ rfl σ _ _ _ ⟨sr2, stC.trans st2, Pin.refl _ _⟩
        · cases hr
      · cases hr
    · rw [h] at hr; cases hr
      exact w.ex x _ rfl c dd σ H' Z' FS' p.q
  · cases hr
theorem rd_set {q1 q2 vk : Bool} {i : Nat} {f fk : DS → Option ER} {te ti : TE} (ha : ∀ σ H Q, rdE G W false q1 f σ H Q → te σ H Q) (hk : ∀ σ H Q, rdE G W vk q2 fk σ H Q → ti σ H Q) : ∀ D σ H, rdS G W n pn (evSet i f fk) D σ H → tAsg te (L2.gSub (tVar i) ti rSetL) D σ H := by
  rintro D σ H ⟨hn, δ, Z, S, FS, sr, r, hr, w⟩
  unfold evSet at hr
  refine ha σ H _ ⟨δ, Z, S, FS, sr, ?_, fun d δ' h v H' Z' FS' A p => ?_, fun x δ' h c dd H' Z' FS' p => ?_⟩
  · cases q : f δ with
    | none => rw [q] at hr; cases hr
    | some w => exact ⟨w, rfl⟩
  · rw [h] at hr
    simp only at hr
    split at hr
    · rename_i d0 e0
      obtain ⟨rf, srC, stC⟩ := p.cap
      obtain ⟨v0, ev0, _⟩ := srC.slot i _ e0
      refine ⟨v0, ev0, ?_⟩
      refine hk σ H' _ ⟨δ', _, S, FS', srC, ?_, fun kd δ2 h2 kv H2 Z2 FS2 A2 p2 => ?_, fun x δ2 h2 c dd H2 Z2 FS2 p2 => ?_⟩
      · cases q : fk δ' with
        | none => rw [q] at hr; cases hr
        | some w => exact ⟨w, rfl⟩
      · rw [h2] at hr
        simp only at hr
        split at hr
        · rename_i k xs e2
          split at hr
          · rename_i j hj
            cases hr
            have kv' : kv = .int k := by
              have vl := p2.vl
              split at vl
              · exact vl.1.intV
              · exact vl.1.intV
            subst kv'
            obtain ⟨a, vs, ev, ha', hl, he, hA⟩ := p2.sr.lstO e2
            rw [ev0] at ev
            cases ev
            have rf2 : RepF G Z2 H2 (cap d) v := rf.step p2.st fun x z => (srC.nz x z).1
            have nZ := (p2.sr.nz a ⟨i, (hA a).mpr rfl⟩).1
            have hil : i < δ2.length := (List.getElem?_eq_some_iff.mp e2).1
            have keep : ∀ x, Z2 x → x ≠ a := fun x z q => nZ (q ▸ z)
            have rp : Rep G Z2 (S i) (upd H2 a (.lst (vs.set j v))) (.lst .o (xs.set j (cap d))) (.ref a) (fun x => x = a) := by
              refine .lo upd_same (by simp [hl]) (fun l x y e1 e2 => ?_) fun _ => Iff.rfl
              by_cases hlj : l = j
              · subst hlj
                have l1 : l < xs.length := by have := (List.getElem?_eq_some_iff.mp e1).1; simpa using this
                have l2 : l < vs.length := hl ▸ l1
                rw [List.getElem?_set_self l1] at e1
                rw [List.getElem?_set_self l2] at e2
                cases e1; cases e2
                exact rf2.mono (fun _ z => z) fun b z o e => by rw [upd_ne (keep b z)]; exact e
              · rw [List.getElem?_set_ne (Ne.symm hlj)] at e1 e2
                exact (he l x y e1 e2).mono (fun _ z => z) fun b z o e => by rw [upd_ne (keep b z)]; exact e
            obtain ⟨sr2, st2⟩ := p2.sr.write ev0 ((hA a).mpr rfl) hil rp fun x q => (hA x).mpr q
            refine ⟨a, vs, k, j, rfl, rfl, ha', by rw [← hl]; exact hj, ?_⟩
            exact w.nx _ rfl σ _ _ _ ⟨sr2, (stC.trans (p2.st.sub fun x z => .inl z)).trans st2, Pin.refl _ _⟩
          · cases hr
        · cases hr
      · rw [h2] at hr; cases hr
        exact w.ex x _ rfl c dd σ H2 Z2 FS2 ⟨p2.sr, stC.trans p2.st, p2.xr, Pin.refl _ _⟩
    · cases hr
  · rw [h] at hr; cases hr
    exact w.ex x _ rfl c dd σ H' Z' FS' p.q
/-- a frozen value of an expression -/
theorem PostE.fzn {vw qt : Bool} {S : Nat → AS} {σ : St} {H H1 : Hp} {Z Z1 : AS} {FS FS1 : Nat → AS} {δ1 : DS} {d : D} {v : V} {A : AS} (a : PostE G S vw qt σ H Z FS d δ1 v H1 Z1 FS1 A) (h : isF d = true) : RepF G Z1 H1 d v ∧ PostB G S qt σ H Z FS δ1 H1 Z1 FS1 := by
  refine ⟨?_, a.b⟩
  have vl := a.vl
  split at vl
  · exact (vl.1.frozen h).1
  · exact (vl.1.frozen h).1
def Snd2 (G : GC) (g : List D → Option D) (r : R2) : Prop := ∀ Z S H ds x y d Q, (∀ a, Z a → ∃ o, H a = some o) → ArgV G Z S H ds [x, y] → g ds = some d → OkV G Z H d Q → r x y H Q
theorem isF_of {b : Bool} (h : ¬ (!b) = true) : b = true := by cases b with | true => rfl | false => exact absurd rfl h
theorem rd_chain {v1 v2 v3 q1 q2 q3 : Bool} {g g' : List D → Option D} {r r' : R2} {fa fb fc : DS → Option ER} {ta tb tc : TE} (h1 : Snd2 G g r) (h2 : Snd2 G g' r') (ha : ∀ σ H Q, rdE G W v1 q1 fa σ H Q → ta σ H Q) (hb : ∀ σ H Q, rdE G W v2 q2 fb σ H Q → tb σ H Q) (hc : ∀ σ H Q, rdE G W v3 q3 fc σ H Q → tc σ H Q) :
    ∀ σ H Q, rdE G W false false (evChain g g' fa fb fc) σ H Q → tChain r r' ta tb tc σ H Q := by
  rintro σ H Q ⟨δ, Z, S, FS, sr, ⟨w, hf⟩, ok, ex⟩
  unfold evChain at hf ok ex
  have av : ∀ {Z S : AS} {H : Hp} {a b : D} {x y : V}, RepF G Z H a x → RepF G Z H b y → ArgV G Z S H [a, b] [x, y] := fun {Z S H a b x y} p q => ⟨rfl, fun j d v e1 e2 => by
    match j with
    | 0 => simp at e1 e2; subst e1 e2; exact ⟨S0, .fz p fun _ z => z⟩
    | 1 => simp at e1 e2; subst e1 e2; exact ⟨S0, .fz q fun _ z => z⟩
    | j + 2 => simp at e1⟩
  refine ha σ H _ ⟨δ, Z, S, FS, sr, ?_, fun a δ1 e1 x H1 Z1 FS1 A1 p1 => ?_, fun x δ1 e1 => ?_⟩
  · cases q : fa δ with
    | none => rw [q] at hf; cases hf
    | some w => exact ⟨w, rfl⟩
  · rw [e1] at hf ok ex
    simp only at hf ok ex
    by_cases c1 : (!isF a) = true
    · rw [if_pos c1] at hf; cases hf
    · rw [if_neg c1] at hf ok ex
      obtain ⟨ra, b1⟩ := p1.fzn (isF_of c1)
      refine hb σ H1 _ ⟨δ1, Z1, S, FS1, b1.sr, ?_, fun b δ2 e2 y H2 Z2 FS2 A2 p2 => ?_, fun x δ2 e2 => ?_⟩
      · cases q : fb δ1 with
        | none => rw [q] at hf; cases hf
        | some w => exact ⟨w, rfl⟩
      · rw [e2] at hf ok ex
        simp only at hf ok ex
        by_cases c2 : (!isF b) = true
        · rw [if_pos c2] at hf; cases hf
        · rw [if_neg c2] at hf ok ex
          obtain ⟨rb, b2⟩ := p2.fzn (isF_of c2)
          have ra2 := ra.step b2.st fun x z => (b1.sr.nz x z).1
          cases eg : g [a, b] with
          | none => rw [eg] at hf; cases hf
          | some d =>
            rw [eg] at hf ok ex
            refine (h1 Z2 S0 H2 [a, b] x y d (fun z H3 => ∃ k, z = V.bl k ∧ if k = true then tc σ H3 fun w' H4 => r' y w' H4 Q else Q (V.bl false) H3) b2.sr.zs (av ra2 rb) eg ?_)
            · intro z H3 Z3 A3 sm zi zn rp fr
              match d, hf, ok, ex, rp with
              | .bl false, hf, ok, ex, rp =>
                rw [rp.blV]
                refine ⟨false, rfl, ?_⟩
                rw [if_neg Bool.false_ne_true]
                have b3 : PostB G S false σ H Z FS δ2 H3 Z3 FS2 := ⟨b2.sr.grow sm zi zn, (b1.st.trans b2.st).trans ⟨fun a o e _ => sm a o e, fun a o e => ⟨o, sm a o e⟩, zi, fun a z => (zn a z).imp id fun q => .inr q.1, fun a z => .inl z⟩, fun q => absurd q Bool.false_ne_true⟩
                exact ok _ _ rfl _ H3 Z3 FS2 S0 (b3.bl false)
              | .bl true, hf, ok, ex, rp =>
                rw [rp.blV]
                refine ⟨true, rfl, ?_⟩
                rw [if_pos rfl]
                simp only at hf ok ex
                have b3 : PostB G S false σ H Z FS δ2 H3 Z3 FS2 := ⟨b2.sr.grow sm zi zn, (b1.st.trans b2.st).trans ⟨fun a o e _ => sm a o e, fun a o e => ⟨o, sm a o e⟩, zi, fun a z => (zn a z).imp id fun q => .inr q.1, fun a z => .inl z⟩, fun q => absurd q Bool.false_ne_true⟩
                have rb3 : RepF G Z3 H3 b y := rb.mono zi fun a _ o e => sm a o e
                refine hc σ H3 _ ⟨δ2, Z3, S, FS2, b3.sr, ?_, fun c δ3 e3 w' H4 Z4 FS4 A4 p4 => ?_, fun x δ3 e3 c dd H4 Z4 FS4 p4 => ?_⟩
                · cases q : fc δ2 with
                  | none => rw [q] at hf; cases hf
                  | some w => exact ⟨w, rfl⟩
                · rw [e3] at hf ok
                  simp only at hf ok
                  by_cases c3 : (!isF c) = true
                  · rw [if_pos c3] at hf; cases hf
                  · rw [if_neg c3] at hf ok
                    obtain ⟨rc, b4⟩ := p4.fzn (isF_of c3)
                    have rb4 := rb3.step b4.st fun x z => (b3.sr.nz x z).1
                    cases eg2 : g' [b, c] with
                    | none => rw [eg2] at hf; cases hf
                    | some d2 =>
                      rw [eg2] at hf ok
                      have h := h2 Z4 S0 H4 [b, c] y w' d2 Q b4.sr.zs (av rb4 rc) eg2 (by
                        intro z H5 Z5 A5 sm zi zn rp fr
                        match d2, hf, ok, rp with
                        | .bl k, hf, ok, rp =>
                          rw [rp.blV]
                          have b5 : PostB G S false σ H Z FS δ3 H5 Z5 FS4 := ⟨b4.sr.grow sm zi zn, (b3.st.trans b4.st).trans ⟨fun a o e _ => sm a o e, fun a o e => ⟨o, sm a o e⟩, zi, fun a z => (zn a z).imp id fun q => .inr q.1, fun a z => .inl z⟩, fun q => absurd q Bool.false_ne_true⟩
                          exact ok _ _ rfl _ H5 Z5 FS4 S0 (b5.bl k))
                      exact h
                · rw [e3] at ex
                  exact ex x δ3 rfl c dd H4 Z4 FS4 ⟨p4.sr, b3.st.trans p4.st, p4.xr⟩
      · rw [e2] at ex
        exact fun c dd H2 Z2 FS2 p2 => ex x δ2 rfl c dd H2 Z2 FS2 (b1.thenX p2)
  · rw [e1] at ex
    exact ex x δ1 rfl
end
end PD
/-! P, part 14: the rules of P, construct by construct. -/
namespace PD
open PySem L2

/-- the world that a walk is in -/
structure En where
  P : Program
  w : World
  K : PySem.W.Frag
  mg : Str → Option Value
  base : Heap
/-- a place: names, level, scope -/
structure Pl where
  N : List Str
  k : Nat
  sc : Scope
  fn : Str → Bool
  /-- in an except suite -/
  hot : Bool
  /-- in a comprehension -/
  inb : Bool
structure At (E : En) (p : Pl) (X : Cx) : Prop where
  prog : X.prog = E.P
  w : X.w = E.w
  K : X.K = E.K
  mg : X.mg = E.mg
  base : X.base = E.base
  N : X.N = p.N
  un : X.A.units + 200 < cLine
  room : p.hot = false → Room p.k X.A
  calm : p.hot = false → X.calm = true
  sc : X.env.scope = p.sc
  fn : X.fn = p.fn
  stk : p.inb = false → X.stack = X.env :: X.outer ∧ X.env.frame = some X.env.locals
def Pl.blk (p : Pl) (scope : Scope) : Pl := ⟨p.N, p.k, relS scope p.sc, fun x => scope.names.lookup x == some .cell, p.hot, true⟩
theorem At.blk {E : En} {p : Pl} {X : Cx} (h : At E p X) (s : Shared) (H : Hp) (scope : Scope) (C : Addr) (cl : List (Str × Addr)) (fp : List Addr) : At E (p.blk scope) (Cx.blk X s H scope (compEnvC scope cl C X.env) fp) :=
  ⟨h.prog, h.w, h.K, h.mg, h.base, h.N, h.un, h.room, h.calm, by show relabel scope X.env = relS scope p.sc; rw [← h.sc]; rfl, rfl, fun z => Bool.noConfusion z⟩
theorem At.xo {E : En} {G : GC} {p : Pl} {X : Cx} (h : At E p X) (hG : G.K = E.K) : XO G X :=
  ⟨h.K.trans hG.symm, h.un⟩
theorem takes_w0 {X : Cx} : Takes X W0 := fun u s' ⟨_, _, _, _, _, _, _, _, _, _, _, _, _, _, _, _, h⟩ => h.elim

section
variable (E : En) (G : GC) (p : Pl)
def JE (vw qt : Bool) (e : Expr) (f : DS → Option ER) : Prop := ∀ X W, At E p X → Takes X W → PE X e (rdE G W vw qt f)
def JA (ks : List Bool) (qt : Bool) (es : List Expr) (f : DS → Option EA) : Prop := ∀ X W, At E p X → Takes X W → PA X es (rdA G W ks qt f)
def JT (qt : Bool) (e : Expr) (f : DS → Option EB) : Prop := ∀ X W, At E p X → Takes X W → PT X e (rdT G W qt f)
def JTs (qt : Bool) (es : List Expr) (f : DS → Option EB) : Prop := ∀ X W, At E p X → Takes X W → PTs X es (rdT G W qt f)
def JW (qt : Bool) (e : Expr) (f : DS → Option EB) : Prop := ∀ X W, At E p X → Takes X W → PW X e (rdT G W qt f)
def JI (qt : Bool) (tg e : Expr) (f : DS → Option EI) : Prop := ∀ X W, At E p X → Takes X W → PI X tg e (rdI G W qt f)
def JTg (n : Nat) (pn : List Nat) (e : Expr) (tg : D → DS → Option DS) : Prop := ∃ g, TgOk G n pn tg g ∧ ∀ X, At E p X → PG X e g
def JS (n : Nat) (pn : List Nat) (st : Stmt) (f : DS → Option ES) : Prop := ∀ X W, At E p X → Takes X W → PassesOwn (model X.prog X.w) X.A X.env X.xe → PS X st (rdS G W n pn f)
def JSs (n : Nat) (pn : List Nat) (st : List Stmt) (f : DS → Option ES) : Prop := ∀ X W, At E p X → Takes X W → PassesOwn (model X.prog X.w) X.A X.env X.xe → PSs X st (rdS G W n pn f)
end
/-- a def that may be called by name -/
def Fd (E : En) (G : GC) (x : Str) (k : Nat) (F : FD) (dds : List D) : Prop :=
  ∃ f fd ps ds dvs, FnOk E.P E.w E.K E.mg E.base (CX E.P E.w) k f fd ps (spF G F) ∧ E.mg x = some (.ref f) ∧ PySem.W.keepIn E.K (.ref f) = true ∧ Binds E.K fd ps ds ∧ Vals dvs ds ∧ Cst G dds dvs

theorem PTs.mono {X : Cx} {e : List Expr} {t t' : TT} (h : PTs X e t) (m : ∀ σ H Q, t' σ H Q → t σ H Q) : PTs X e t' := ⟨fun pins s σ H Q I q => h.run pins s σ H Q I (m σ H Q q)⟩
theorem PW.mono {X : Cx} {e : Expr} {t t' : TT} (h : PW X e t) (m : ∀ σ H Q, t' σ H Q → t σ H Q) : PW X e t' := ⟨fun whole pins s σ H Q I q => h.run whole pins s σ H Q I (m σ H Q q)⟩
theorem PI.mono {X : Cx} {tg e : Expr} {t t' : TI} (h : PI X tg e t) (m : ∀ σ H Q, t' σ H Q → t σ H Q) : PI X tg e t' := ⟨fun pins s σ H Q I q => h.run pins s σ H Q I (m σ H Q q)⟩
theorem PE.monoL {X : Cx} {e : Expr} {t t' : TE} (h : PE X e t) (m : ∀ σ H Q, σ.length = X.N.length → t' σ H Q → t σ H Q) : PE X e t' := ⟨fun pins s σ H Q I q => h.run pins s σ H Q I (m σ H Q I.len q)⟩

/-! ### checks of places -/
def nmOk (p : Pl) (i : Nat) (x : Str) : Bool := decide (p.N[i]? = some x) && (decide (p.sc.names.lookup x = some .local) || decide (p.sc.names.lookup x = some .cell) || decide (p.sc.names.lookup x = some .free)) && !(x == Str.ofString "__debug__") && !(x == Str.ofString "__classdict__")
def stOk (p : Pl) (i : Nat) (x : Str) : Bool := decide (p.N[i]? = some x) && ((decide (p.sc.names.lookup x = some .cell) && p.fn x) || decide (p.sc.names.lookup x = some .local))
def glOk (p : Pl) (x : Str) : Bool := decide (p.sc.names.lookup x = some .globalImplicit) && !(x == Str.ofString "__debug__") && !(x == Str.ofString "__name__")
section
variable {E : En} {G : GC} {p : Pl} {X : Cx} {n : Nat} {pn : List Nat}
theorem nmOk.get {i : Nat} {x : Str} (h : nmOk p i x = true) : p.N[i]? = some x ∧ Vis p.sc x ∧ (x == Str.ofString "__debug__") = false ∧ (x == Str.ofString "__classdict__") = false := by
  unfold nmOk at h
  simp only [Bool.and_eq_true, Bool.or_eq_true, decide_eq_true_eq, Bool.not_eq_true'] at h
  exact ⟨h.1.1.1, h.1.1.2.elim (fun z => z.elim .inl fun q => .inr (.inl q)) fun q => .inr (.inr q), h.1.2, h.2⟩
theorem at_pe {i : Nat} {x : Str} {pos : Pos} (h : nmOk p i x = true) (hA : At E p X) : PE X (.Name x pos) (tVar i) := by
  obtain ⟨h1, h2, h3, h4⟩ := nmOk.get h
  exact pe_var (by rw [hA.N]; exact h1) (by rw [hA.sc]; exact h2) h3 h4
theorem at_gl {x : Str} (h : glOk p x = true) (hA : At E p X) : Gl X x ∧ (x == Str.ofString "__debug__") = false ∧ x ≠ Str.ofString "__name__" := by
  unfold glOk at h
  simp only [Bool.and_eq_true, decide_eq_true_eq, Bool.not_eq_true'] at h
  refine ⟨?_, h.1.2, fun e => ?_⟩
  · show X.env.scope.names.lookup x = _
    rw [hA.sc]; exact h.1.1
  · have := h.2; rw [e] at this; simp at this
/-! ### expressions -/
theorem j_var {i : Nat} {x : Str} {pos : Pos} (h : nmOk p i x = true) : JE E G p true true (.Name x pos) (evVar i) := fun X W hA _ => PE.mono (at_pe h hA) rd_var
theorem j_fv {i : Nat} {x : Str} {pos : Pos} (h : nmOk p i x = true) : JE E G p false false (.Name x pos) (evFv i) := fun X W hA _ => PE.mono (at_pe h hA) rd_fv
theorem j_mv {i : Nat} {x : Str} {pos : Pos} (h : nmOk p i x = true) : JE E G p false false (.Name x pos) (evMv i) := fun X W hA _ => PE.mono (at_pe h hA) rd_mv
theorem j_int {i : Int} {j : Nat} {pos : Pos} : JE E G p false true (.Constant (.int i) j pos) (evCst (.int i)) := fun X W hA _ => PE.mono pe_int (rd_cst fun _ _ => .int i)
theorem j_str {z : Str} {j : Nat} {pos : Pos} : JE E G p false true (.Constant (.str z) j pos) (evCst (.str z)) := fun X W hA _ => PE.mono pe_str (rd_cst fun _ _ => .str z)
theorem j_bl {b : Bool} {j : Nat} {pos : Pos} : JE E G p false true (.Constant (.bool b) j pos) (evCst (.bl b)) := fun X W hA _ => PE.mono pe_bl (rd_cst fun _ _ => .bl b)
theorem j_non {j : Nat} {pos : Pos} : JE E G p false true (.Constant .none j pos) (evCst .non) := fun X W hA _ => PE.mono pe_non (rd_cst fun _ _ => .non)
/-- a scalar of the top -/
theorem j_glob {x : Str} {v : V} {d : D} {u : Value} {pos : Pos} (h : glOk p x = true) (hm : E.mg x = some u) (hr : RelV v u) (hd : ∀ Z H, RepF G Z H d v) : JE E G p false true (.Name x pos) (evCst d) := fun X W hA _ =>
  let ⟨g, g2, _⟩ := at_gl h hA
  PE.mono (pe_glob g (by rw [hA.mg]; exact hm) hr g2) (rd_cst hd)
theorem j_nil : JA E G p [] true [] evNil := fun X W hA _ => PA.mono pa_nil rd_nil
abbrev StarNo (e : Expr) (es : List Expr) : Prop := ∀ env, starEach (e :: es) env = (false, eval e env) :: starEach es env
theorem j_cons {vw qa qr : Bool} {ks : List Bool} {e : Expr} {es : List Expr} {fa : DS → Option ER} {fr : DS → Option EA} (ha : JE E G p vw qa e fa) (hr : JA E G p ks qr es fr) (hv : vw = true → qa = true := by decide) (hs : StarNo e es := by exact fun _ => rfl) :
    JA E G p (vw :: ks) (qa && qr) (e :: es) (evCons vw qr fa fr) := fun X W hA hT => PA.mono (pa_cons (ha X W hA hT) (hr X W hA hT) (hs _)) (rd_cons (fun _ _ _ h => h) (fun _ _ _ h => h) hv)
/-- an argument that is a name -/
theorem j_dfr {i : Nat} {x : Str} {pos : Pos} {qr : Bool} {ks : List Bool} {es : List Expr} {fr : DS → Option EA} (h : nmOk p i x = true) (hr : JA E G p ks qr es fr) (hs : StarNo (.Name x pos) es := by exact fun _ => rfl) :
    JA E G p (true :: ks) qr (.Name x pos :: es) (evDefer i fr) := fun X W hA hT => PA.mono (pa_cons (at_pe h hA) (hr X W hA hT) (hs _)) (rd_defer fun _ _ _ h => h)
theorem tOp_of {r : List V → Hp → VK → Prop} {ta tb : TE} {σ : St} {H : Hp} {Q : VK} (h : tCons ta (tCons tb tNil) σ H fun vs H1 => r vs H1 Q) : tOp (fun x y H Q => r [x, y] H Q) ta tb σ H Q := h
/-- two operands: how they are read -/
inductive J2 (E : En) (G : GC) (p : Pl) : List Bool → Bool → Expr → Expr → (DS → Option EA) → Prop
  | cc {v1 q1 v2 q2 : Bool} {a b : Expr} {fa fb : DS → Option ER} (ha : JE E G p v1 q1 a fa) (hb : JE E G p v2 q2 b fb) (h1 : v1 = true → q1 = true) (h2 : v2 = true → q2 = true) : J2 E G p [v1, v2] (q1 && (q2 && true)) a b (evCons v1 (q2 && true) fa (evCons v2 true fb evNil))
  | dc {i : Nat} {x : Str} {pos : Pos} {v2 q2 : Bool} {b : Expr} {fb : DS → Option ER} (h : nmOk p i x = true) (hb : JE E G p v2 q2 b fb) (h2 : v2 = true → q2 = true) : J2 E G p [true, v2] (q2 && true) (.Name x pos) b (evDefer i (evCons v2 true fb evNil))
theorem J2.go {ks : List Bool} {qt : Bool} {a b : Expr} {fa : DS → Option EA} (h : J2 E G p ks qt a b fa) {W : WX} (hA : At E p X) (hT : Takes X W) : ∃ ta tb, PE X a ta ∧ PE X b tb ∧ ∀ σ H Q, rdA G W ks qt fa σ H Q → tCons ta (tCons tb tNil) σ H Q := by
  cases h with
  | cc ha hb h1 h2 => exact ⟨_, _, ha X W hA hT, hb X W hA hT, rd_cons (fun _ _ _ h => h) (rd_cons (fun _ _ _ h => h) rd_nil h2) h1⟩
  | dc h hb h2 => exact ⟨_, _, at_pe h hA, hb X W hA hT, rd_defer (rd_cons (fun _ _ _ h => h) rd_nil h2)⟩
theorem j_bin {ks : List Bool} {qt : Bool} {op : Operator} {a b : Expr} {pos : Pos} {g : List D → Option D} {fa : DS → Option EA} (hG : G.K = E.K) (ho : ∀ {X}, XO G X → BinOk G X (binaryOp op) g) (ha : J2 E G p ks qt a b fa) : JE E G p false qt (.BinOp a op b pos) (evOp g fa) := fun X W hA hT =>
  let ⟨_, _, h1, h2, h3⟩ := ha.go hA hT
  PE.mono (pe_op (ho (hA.xo hG)) h1 h2) fun σ H Q h => rd_op (snd_of G g) h3 σ H Q h
theorem j_cmp {ks : List Bool} {qt : Bool} {op : CmpOp} {a b : Expr} {pos : Pos} {g : List D → Option D} {fa : DS → Option EA} (hG : G.K = E.K) (ho : ∀ {X}, XO G X → BinOk G X (compareOp op) g) (ha : J2 E G p ks qt a b fa) (hm : behindInMarks op b = false := by rfl) : JE E G p false qt (.Compare a [op] [b] pos) (evOp g fa) := fun X W hA hT =>
  let ⟨_, _, h1, h2, h3⟩ := ha.go hA hT
  PE.mono (pe_cmpR (ho (hA.xo hG)) h1 h2 hm) fun σ H Q h => rd_op (snd_of G g) h3 σ H Q h
theorem j_ix {ks : List Bool} {qt : Bool} {a b : Expr} {pos : Pos} {g : List D → Option D} {fa : DS → Option EA} (hG : G.K = E.K) (ho : ∀ {X}, XO G X → IxOk G X g) (ha : J2 E G p ks qt a b fa) (hp : PlainIx b := by exact fun _ _ => rfl) : JE E G p false qt (.Subscript a b pos) (evOp g fa) := fun X W hA hT =>
  let ⟨_, _, h1, h2, h3⟩ := ha.go hA hT
  PE.mono (pe_ix (ho (hA.xo hG)) h1 h2 hp) fun σ H Q h => rd_op (snd_of G g) h3 σ H Q h
theorem j_un {v1 q1 : Bool} {op : UnaryOp} {a : Expr} {pos : Pos} {g : List D → Option D} {fa : DS → Option ER} (hG : G.K = E.K) (ho : ∀ {X}, XO G X → UnOk G X (unaryOp op) g) (ha : JE E G p v1 q1 a fa) (hv : v1 = true → q1 = true := by decide) : JE E G p false (q1 && true) (.UnaryOp op a pos) (evOp g (evCons v1 true fa evNil)) := fun X W hA hT =>
  PE.mono (pe_un (ho (hA.xo hG)) (ha X W hA hT)) fun σ H Q h => rd_op (snd_of G g) (rd_cons (fun _ _ _ h => h) rd_nil hv) σ H Q h
theorem snd2 {g : List D → Option D} : Snd2 G g (fun x y H Q => rOf G g [x, y] H Q) := fun Z S H ds x y d Q zs a e k => ⟨Z, S, ds, d, zs, a, e, k⟩
end
end PD
/-! P, part 15: the rules of P, construct by construct, continued. -/
namespace PD
open PySem L2

def evYes : DS → Option EB := fun δ => some (.ok true, δ)
section
variable {E : En} {G : GC} {p : Pl} {X : Cx} {n : Nat} {pn : List Nat}
theorem j_opq {vw qt : Bool} {e : Expr} {f : DS → Option ER} (h : JE E G p vw qt e f) : JE E G p false qt e (evOpq vw f) := fun X W hA hT => PE.mono (h X W hA hT) (rd_opq fun _ _ _ h => h)
theorem j_tup {ks : List Bool} {qt : Bool} {es : List Expr} {x1 : Nat} {pos : Pos} {fa : DS → Option EA} (h : JA E G p ks qt es fa) : JE E G p false qt (.Tuple es x1 pos) (evTup ks fa) := fun X W hA hT => PE.mono (pe_tup (h X W hA hT)) (rd_tup fun _ _ _ h => h)
theorem j_lst {ks : List Bool} {qt : Bool} {es : List Expr} {pos : Pos} {fa : DS → Option EA} (h : JA E G p ks qt es fa) : JE E G p false qt (.List es pos) (evLst ks fa) := fun X W hA hT => PE.mono (pe_lst (h X W hA hT)) (rd_lst fun _ _ _ h => h)
abbrev NoStar (es : List Expr) : Prop := ∀ (env : Env) (pos : Pos), ((backTo pos (starEach es env)).any fun x => x.1) = false
/-- a built-in function, a built-in type -/
theorem j_bi {ks : List Bool} {qt : Bool} {x : Str} {q pos : Pos} {e : Expr} {es : List Expr} {id : String} {g : List D → Option D} {fa : DS → Option EA} (hG : G.K = E.K) (ho : ∀ {X}, XO G X → CallOk G X (.builtin id) g) (hg : glOk p x = true) (hm : E.mg x = none) (hb : bootBuiltins x = some (.builtin id))
    (ha : JA E G p ks qt (e :: es) fa) (hs : StarNo e es := by exact fun _ => rfl) (hs2 : NoStar es := by exact fun _ _ => rfl) : JE E G p false qt (.Call (.Name x q) (e :: es) [] pos) (evOp g fa) := fun X W hA hT =>
  let ⟨g1, g2, g3⟩ := at_gl hg hA
  PE.mono (pe_callB (ho (hA.xo hG)) g1 (by rw [hA.mg]; exact hm) hb (ha X W hA hT) g3 g2 (hs _) (hs2 _ _)) fun σ H Q h => rd_op (snd_of G g) (fun _ _ _ h => h) σ H Q h
theorem j_biC {ks : List Bool} {qt : Bool} {x : Str} {q pos : Pos} {e : Expr} {es : List Expr} {id : String} {g : List D → Option D} {fa : DS → Option EA} (hG : G.K = E.K) (ho : ∀ {X}, XO G X → X.calm = true → CallOk G X (.builtin id) g) (hg : glOk p x = true) (hm : E.mg x = none) (hb : bootBuiltins x = some (.builtin id))
    (ha : JA E G p ks qt (e :: es) fa) (hh : p.hot = false := by rfl) (hs : StarNo e es := by exact fun _ => rfl) (hs2 : NoStar es := by exact fun _ _ => rfl) : JE E G p false qt (.Call (.Name x q) (e :: es) [] pos) (evOp g fa) := fun X W hA hT =>
  let ⟨g1, g2, g3⟩ := at_gl hg hA
  PE.mono (pe_callB (ho (hA.xo hG) (hA.calm hh)) g1 (by rw [hA.mg]; exact hm) hb (ha X W hA hT) g3 g2 (hs _) (hs2 _ _)) fun σ H Q h => rd_op (snd_of G g) (fun _ _ _ h => h) σ H Q h
theorem j_ty {ks : List Bool} {qt : Bool} {x : Str} {q pos : Pos} {e : Expr} {es : List Expr} {id : String} {g : List D → Option D} {fa : DS → Option EA} (hG : G.K = E.K) (ho : ∀ {X}, XO G X → CallOk G X (.type id) g) (hg : glOk p x = true) (hm : E.mg x = none) (hb : bootBuiltins x = some (.type id))
    (ha : JA E G p ks qt (e :: es) fa) (hs : StarNo e es := by exact fun _ => rfl) (hs2 : NoStar es := by exact fun _ _ => rfl) : JE E G p false qt (.Call (.Name x q) (e :: es) [] pos) (evOp g fa) := fun X W hA hT =>
  let ⟨g1, g2, g3⟩ := at_gl hg hA
  PE.mono (pe_callTy (ho (hA.xo hG)) g1 (by rw [hA.mg]; exact hm) hb (ha X W hA hT) g3 g2 (hs _) (hs2 _ _)) fun σ H Q h => rd_op (snd_of G g) (fun _ _ _ h => h) σ H Q h
/-- an own function -/
theorem at_call {x : Str} {k : Nat} {F : FD} {dds : List D} {q pos : Pos} {e : Expr} {es : List Expr} {W : WX} {t : TA} (c : Fd E G x k F dds) (hk : k ≤ p.k) (hg : glOk p x = true) (hA : At E p X) (hT : Takes X W) (hh : p.hot = false) (hs : StarNo e es) (hs2 : NoStar es) (ha : PA X (e :: es) t) :
    ∃ dvs, Cst G dds dvs ∧ PE X (.Call (.Name x q) (e :: es) [] pos) (tCallSD (spF G F) dvs (fun σ => WE W σ) t) := by
  obtain ⟨f, fd, ps, ds, dvs, h1, h2, h3, h4, h5, h6⟩ := c
  obtain ⟨g1, g2, g3⟩ := at_gl hg hA
  obtain ⟨eP, ew, eK, emg, eb, _, _, hr, _, _, _, _⟩ := hA
  have hr := hr hh
  rw [← eP, ← ew, ← eK, ← emg, ← eb] at h1
  rw [← emg] at h2
  rw [← eK] at h3 h4
  exact ⟨dvs, h6, pe_callSD h1 (hr.mono hk) g1 h2 h3 h4 h5 (fun σ => passAt hT σ) ha g2 (hs _) (hs2 _ _)⟩
theorem j_own {x : Str} {k : Nat} {F : FD} {dds : List D} {ks : List Bool} {qt : Bool} {q pos : Pos} {e : Expr} {es : List Expr} {fa : DS → Option EA} (c : Fd E G x k F dds) (hk : k ≤ p.k) (hg : glOk p x = true) (ha : JA E G p ks qt (e :: es) fa) (hh : p.hot = false := by rfl) (hs : StarNo e es := by exact fun _ => rfl) (hs2 : NoStar es := by exact fun _ _ => rfl) :
    JE E G p false qt (.Call (.Name x q) (e :: es) [] pos) (evCall F ks dds fa) := fun X W hA hT =>
  let ⟨_, h6, h⟩ := at_call c hk hg hA hT hh hs hs2 (ha X W hA hT)
  PE.mono h (rd_call h6 fun _ _ _ h => h)
theorem j_ownM {x y : Str} {i k : Nat} {F : FD} {dds : List D} {ks : List Bool} {qt : Bool} {q q2 pos : Pos} {es : List Expr} {fr : DS → Option EA} (c : Fd E G x k F dds) (hk : k ≤ p.k) (hg : glOk p x = true) (hy : nmOk p i y = true) (ha : JA E G p ks qt es fr) (hh : p.hot = false := by rfl) (hs : StarNo (.Name y q2) es := by exact fun _ => rfl) (hs2 : NoStar es := by exact fun _ _ => rfl) :
    JE E G p false false (.Call (.Name x q) (.Name y q2 :: es) [] pos) (evCallM F i ks dds fr) := fun X W hA hT =>
  let ⟨_, h6, h⟩ := at_call c hk hg hA hT hh hs hs2 (pa_cons (at_pe hy hA) (ha X W hA hT) (hs _))
  PE.mono h (rd_callM h6 fun _ _ _ h => h)
/-! truth values -/
theorem j_one {vw qt : Bool} {op : BoolOp} {a : Expr} {pos : Pos} {f : DS → Option ER} (h : JE E G p vw qt a f) : JE E G p vw qt (.BoolOp op [a] pos) f := fun X W hA hT => pe_one (h X W hA hT)
theorem j_andV {v1 q1 q2 : Bool} {a b : Expr} {r : List Expr} {pos : Pos} {f g : DS → Option ER} (ha : JE E G p v1 q1 a f) (hb : JE E G p false q2 (.BoolOp .And (b :: r) pos) g) : JE E G p false (q1 && q2) (.BoolOp .And (a :: b :: r) pos) (evAndV f g) := fun X W hA hT =>
  PE.mono (pe_and (ha X W hA hT) (hb X W hA hT)) (rd_andV (fun _ _ _ h => h) fun _ _ _ h => h)
theorem j_orV {v1 q1 q2 : Bool} {a b : Expr} {r : List Expr} {pos : Pos} {f g : DS → Option ER} (ha : JE E G p v1 q1 a f) (hb : JE E G p false q2 (.BoolOp .Or (b :: r) pos) g) : JE E G p false (q1 && q2) (.BoolOp .Or (a :: b :: r) pos) (evOrV f g) := fun X W hA hT =>
  PE.mono (pe_or (ha X W hA hT) (hb X W hA hT)) (rd_orV (fun _ _ _ h => h) fun _ _ _ h => h)
theorem j_notV {v1 q1 : Bool} {a : Expr} {pos : Pos} {f : DS → Option ER} (ha : JE E G p v1 q1 a f) : JE E G p false q1 (.UnaryOp .Not a pos) (evNotV f) := fun X W hA hT => PE.mono (pe_not (ha X W hA hT)) (rd_notV fun _ _ _ h => h)
theorem j_chain {v1 v2 v3 q1 q2 q3 : Bool} {op op' : CmpOp} {a b c : Expr} {pos : Pos} {g g' : List D → Option D} {fa fb fc : DS → Option ER} (hG : G.K = E.K) (ho : ∀ {X}, XO G X → BinOk G X (compareOp op) g) (ho' : ∀ {X}, XO G X → BinOk G X (compareOp op') g') (ha : JE E G p v1 q1 a fa) (hb : JE E G p v2 q2 b fb) (hc : JE E G p v3 q3 c fc)
    (hm : lastMarks [op, op'] [b, c] = false := by rfl) : JE E G p false false (.Compare a [op, op'] [b, c] pos) (evChain g g' fa fb fc) := fun X W hA hT =>
  PE.mono (pe_chain (ho (hA.xo hG)) (ho' (hA.xo hG)) (ha X W hA hT) (hb X W hA hT) (hc X W hA hT) hm) (rd_chain snd2 snd2 (fun _ _ _ h => h) (fun _ _ _ h => h) fun _ _ _ h => h)
theorem j_tchain {v1 v2 v3 q1 q2 q3 : Bool} {op op' : CmpOp} {a b c : Expr} {pos : Pos} {g g' : List D → Option D} {fa fb fc : DS → Option ER} (hG : G.K = E.K) (ho : ∀ {X}, XO G X → BinOk G X (compareOp op) g) (ho' : ∀ {X}, XO G X → BinOk G X (compareOp op') g') (ha : JE E G p v1 q1 a fa) (hb : JE E G p v2 q2 b fb) (hc : JE E G p v3 q3 c fc)
    (hm : lastMarks [op, op'] [b, c] = false := by rfl) : JT E G p false (.Compare a [op, op'] [b, c] pos) (evTr blD (evChain g g' fa fb fc)) := fun X W hA hT =>
  PT.mono (pt_chain (ho (hA.xo hG)) (ho' (hA.xo hG)) (ha X W hA hT) (hb X W hA hT) (hc X W hA hT) hm) (rd_trb (rd_chain snd2 snd2 (fun _ _ _ h => h) (fun _ _ _ h => h) fun _ _ _ h => h))
theorem j_tcmp {ks : List Bool} {qt : Bool} {op : CmpOp} {a b : Expr} {pos : Pos} {g : List D → Option D} {fa : DS → Option EA} (hG : G.K = E.K) (ho : ∀ {X}, XO G X → BinOk G X (compareOp op) g) (ha : J2 E G p ks qt a b fa) (hm : behindInMarks op b = false := by rfl) : JT E G p qt (.Compare a [op] [b] pos) (evTr blD (evOp g fa)) := fun X W hA hT =>
  let ⟨ta, tb, h1, h2, h3⟩ := ha.go hA hT
  have h4 : ∀ σ H Q, rdE G W false qt (evOp g fa) σ H Q → tOp (fun x y H Q => rOf G g [x, y] H Q) ta tb σ H Q := fun σ H Q h => rd_op (snd_of G g) h3 σ H Q h
  PT.mono (pt_cmpR (ho (hA.xo hG)) h1 h2 hm) (rd_trb h4)
abbrev PlainT (a : Expr) : Prop := ∀ (env : Env) (whole : Sem Value), isTrue a env whole = (do let v ← whole; standAt a.pos; holding [v] (truthy v))
theorem j_tval {vw qt : Bool} {a : Expr} {f : DS → Option ER} (hG : G.K = E.K) (ha : JE E G p vw qt a f) (he : PlainT a := by exact fun _ _ => rfl) : JT E G p qt a (evTr truD f) := fun X W hA hT =>
  PT.mono (pt_truth (ha X W hA hT) (he _)) (by have := rd_tru (G := G) (W := W) (vw := vw) (qt := qt) (f := f) (fun _ _ _ h => h); rw [hG, ← hA.K] at this; exact this)
theorem j_tnot {qt : Bool} {a : Expr} {pos : Pos} {f : DS → Option EB} (ha : JT E G p qt a f) : JT E G p qt (.UnaryOp .Not a pos) (evNotT f) := fun X W hA hT => PT.mono (pt_not (ha X W hA hT)) (rd_notT fun _ _ _ h => h)
theorem j_w {qt : Bool} {a : Expr} {f : DS → Option EB} (h : JW E G p qt a f) : JT E G p qt a f := fun X W hA hT => (h X W hA hT).pt
theorem j_wa1 {qt : Bool} {a : Expr} {pos : Pos} {f : DS → Option EB} (h : JT E G p qt a f) : JW E G p qt (.BoolOp .And [a] pos) f := fun X W hA hT => pw_and1 (h X W hA hT)
theorem j_wo1 {qt : Bool} {a : Expr} {pos : Pos} {f : DS → Option EB} (h : JT E G p qt a f) : JW E G p qt (.BoolOp .Or [a] pos) f := fun X W hA hT => pw_or1 (h X W hA hT)
theorem j_wand {q1 q2 : Bool} {a b : Expr} {r : List Expr} {pos : Pos} {f g : DS → Option EB} (ha : JT E G p q1 a f) (hb : JW E G p q2 (.BoolOp .And (b :: r) pos) g) : JW E G p (q1 && q2) (.BoolOp .And (a :: b :: r) pos) (evAndT f g) := fun X W hA hT =>
  PW.mono (pw_and (ha X W hA hT) (hb X W hA hT)) (rd_andT (fun _ _ _ h => h) fun _ _ _ h => h)
theorem j_wor {q1 q2 : Bool} {a b : Expr} {r : List Expr} {pos : Pos} {f g : DS → Option EB} (ha : JT E G p q1 a f) (hb : JW E G p q2 (.BoolOp .Or (b :: r) pos) g) : JW E G p (q1 && q2) (.BoolOp .Or (a :: b :: r) pos) (evOrT f g) := fun X W hA hT =>
  PW.mono (pw_or (ha X W hA hT) (hb X W hA hT)) (rd_orT (fun _ _ _ h => h) fun _ _ _ h => h)
theorem j_if {q1 q2 q3 : Bool} {c a b : Expr} {pos : Pos} {t : DS → Option EB} {f g : DS → Option ER} (hc : JT E G p q1 c t) (ha : JE E G p false q2 a f) (hb : JE E G p false q3 b g) : JE E G p false (q1 && q2 && q3) (.IfExp c a b pos) (evIf t f g) := fun X W hA hT =>
  PE.mono (pe_ifExp (hc X W hA hT) (ha X W hA hT) (hb X W hA hT)) (rd_if (fun _ _ _ h => h) (fun _ _ _ h => h) fun _ _ _ h => h)
/-! what is gone through -/
def Rt (fs : DS → Option EI) (rt : Option Nat) : Prop := ∀ δ i d xs δ', fs δ = some (.ok (.lent i d xs), δ') → rt = some i
theorem rt_src {rt : Option Nat} {vw : Bool} {f : DS → Option ER} : Rt (evSrc rt vw f) rt := fun δ i d xs δ' h => by
  unfold evSrc at h
  split at h
  · cases h
  · cases h
  · split at h
    · cases h
    · split at h
      · split at h
        · cases h
        · cases h; rfl
      · cases h
theorem rt_rng {g : List D → Option (List D)} {f : DS → Option EA} : Rt (evRng g f) none := fun δ i d xs δ' h => by
  unfold evRng at h
  split at h
  · cases h
  · cases h
  · split at h
    · cases h
    · cases h
theorem j_src {vw qt : Bool} {tg e : Expr} {f : DS → Option ER} (hG : G.K = E.K) (ha : JE E G p vw qt e f) : JI E G p qt tg e (evSrc none vw f) := fun X W hA hT =>
  PI.mono (pi_any (ha X W hA hT)) (by have := rd_src (G := G) (W := W) (vw := vw) (qt := qt) (f := f) (fun _ _ _ h => h); rw [hG, ← hA.K] at this; exact this)
theorem j_srcV {i : Nat} {x : Str} {tg : Expr} {pos : Pos} (hG : G.K = E.K) (h : nmOk p i x = true) : JI E G p false tg (.Name x pos) (evSrc (some i) true (evVar i)) := fun X W hA hT =>
  PI.mono (pi_any (at_pe h hA)) (by have := rd_srcV (G := G) (W := W) (i := i); rw [hG, ← hA.K] at this; exact this)
theorem j_rng1 {ks : List Bool} {qt : Bool} {tg a : Expr} {q pos : Pos} {f : DS → Option EA} (hg : glOk p (Str.ofString "range") = true) (hm : E.mg (Str.ofString "range") = none) (ha : JA E G p ks qt [a] f) (hs : StarNo a [] := by exact fun _ => rfl) : JI E G p qt tg (.Call (.Name (Str.ofString "range") q) [a] [] pos) (evRng rng1Of f) := fun X W hA hT =>
  PI.mono (pi_range1 (at_gl hg hA).1 (by rw [hA.mg]; exact hm) (ha X W hA hT) (hs _)) (rd_rng rng1_ok fun _ _ _ h => h)
theorem j_rng2 {ks : List Bool} {qt : Bool} {tg a b : Expr} {q pos : Pos} {f : DS → Option EA} (hg : glOk p (Str.ofString "range") = true) (hm : E.mg (Str.ofString "range") = none) (ha : JA E G p ks qt [a, b] f) (hs : StarNo a [b] := by exact fun _ => rfl) (hs2 : StarNo b [] := by exact fun _ => rfl) : JI E G p qt tg (.Call (.Name (Str.ofString "range") q) [a, b] [] pos) (evRng rng2Of f) := fun X W hA hT =>
  PI.mono (pi_range2 (at_gl hg hA).1 (by rw [hA.mg]; exact hm) (ha X W hA hT) (by rw [hs, hs2]; rfl) (hs2 _)) (rd_rng rng2_ok fun _ _ _ h => h)
/-! targets -/
theorem at_tg {i : Nat} {x : Str} {pos : Pos} (h : stOk p i x = true) (hN : p.N.Nodup) (hA : At E p X) : PG X (.Name x pos) (gName i) := by
  unfold stOk at h
  simp only [Bool.and_eq_true, Bool.or_eq_true, decide_eq_true_eq] at h
  refine pg_name (by rw [hA.N]; exact hN) (by rw [hA.N]; exact h.1) ?_ ?_
  · rw [hA.sc]; exact h.2.elim (fun z => .inr z.1) .inl
  · rw [hA.sc, hA.fn]; exact h.2.elim (fun z => .inl z.2) .inr
theorem j_tg {i : Nat} {x : Str} {pos : Pos} (h : stOk p i x = true) (hN : p.N.Nodup) (hi : i < n) (hp : i ∉ pn) : JTg E G p n pn (.Name x pos) (tgName i) := ⟨gName i, tg_name hi hp, fun X hA => at_tg h hN hA⟩
def JNs (E : En) (p : Pl) (n : Nat) (pn : List Nat) (es : List Expr) (is : List Nat) : Prop := (∀ i ∈ is, i < n ∧ i ∉ pn) ∧ ∀ X, At E p X → PGs X es (gNames is)
theorem j_ns0 : JNs E p n pn [] [] := ⟨fun i h => by simp at h, fun X hA => pgs_nil⟩
abbrev TgNo (e : Expr) (es : List Expr) : Prop := ∀ env, (assignEach (e :: es) env).map (fun x => x.2) = assign e env :: (assignEach es env).map fun x => x.2
theorem j_ns {i : Nat} {is : List Nat} {x : Str} {pos : Pos} {es : List Expr} (h : stOk p i x = true) (hN : p.N.Nodup) (hi : i < n) (hp : i ∉ pn) (hr : JNs E p n pn es is) (ht : TgNo (.Name x pos) es := by exact fun _ => rfl) : JNs E p n pn (.Name x pos :: es) (i :: is) :=
  ⟨fun j hj => (List.mem_cons.mp hj).elim (fun e => by rw [e]; exact ⟨hi, hp⟩) (hr.1 j), fun X hA => pgs_cons (at_tg h hN hA) (hr.2 X hA) (ht _)⟩
theorem j_tgt {is : List Nat} {es : List Expr} {k : Nat} {pos : Pos} (hG : G.K = E.K) (h : JNs E p n pn es is) (hh : p.hot = false := by rfl) (h1 : ∀ env, (assignEach es env).length = is.length := by exact fun _ => rfl) (h2 : ∀ env, (assignEach es env).findIdx? (fun x => x.1) = none := by exact fun _ => rfl) : JTg E G p n pn (.Tuple es k pos) (tgTup is) :=
  ⟨_, tg_tup h.1, fun X hA => by have := pg_tup (pos := pos) (k := k) (hA.calm hh) (h.2 X hA) (h1 _) (h2 _); rw [hA.K, ← hG] at this; exact this⟩
/-! comprehensions -/
theorem j_yes : JTs E G p true [] evYes := fun X W hA hT => PTs.mono pts_nil (by
  rintro σ H Q ⟨δ, Z, S, FS, sr, -, ok, -⟩
  exact ok true δ rfl H Z FS ⟨sr, Step.refl _ _ _, fun _ => ⟨rfl, fun _ _ e => e⟩⟩)
theorem j_tst {qt : Bool} {c : Expr} {f : DS → Option EB} (h : JT E G p qt c f) : JTs E G p qt [c] f := fun X W hA hT => pts_one (h X W hA hT)
/-- all that a comprehension wants -/
structure JLc (E : En) (G : GC) (p : Pl) (own : List (Str × Nat)) (elt tg iter : Expr) (ifs : List Expr) (scope : Scope) (f : DS → Option ER) : Prop where
  go : ∃ fs tgf t fe q1 q2 q3 rt, f = evLc fs tgf t fe (own.map (·.2)) ∧ JI E G p q1 tg iter fs ∧ Rt fs rt ∧ (∀ i, rt = some i → i ∉ own.map (·.2)) ∧ JTg E G (p.blk scope) p.N.length (outside p.N.length (own.map (·.2))) tg tgf ∧ JTs E G (p.blk scope) q2 ifs t ∧ JE E G (p.blk scope) false q3 elt fe
  nd : p.N.Nodup
  blk : blkC p.N p.sc scope own = true
  it : ∀ env x, foldedSetIterable iter env x = pure x
  cold : p.hot = false
theorem j_lcK {own : List (Str × Nat)} {elt tg iter : Expr} {ifs : List Expr} {scope : Scope} {fs : DS → Option EI} {tgf : D → DS → Option DS} {t : DS → Option EB} {fe : DS → Option ER} {q1 q2 q3 : Bool} {rt : Option Nat}
    (nd : p.N.Nodup) (hb : blkC p.N p.sc scope own = true) (hi : JI E G p q1 tg iter fs) (hr : Rt fs rt) (hrt : ∀ i, rt = some i → i ∉ own.map (·.2)) (htg : JTg E G (p.blk scope) p.N.length (outside p.N.length (own.map (·.2))) tg tgf) (ht : JTs E G (p.blk scope) q2 ifs t) (he : JE E G (p.blk scope) false q3 elt fe) (hh : p.hot = false := by rfl) (hit : ∀ env x, foldedSetIterable iter env x = pure x := by exact fun _ _ => rfl) :
    JLc E G p own elt tg iter ifs scope (evLc fs tgf t fe (own.map (·.2))) := ⟨⟨_, _, _, _, _, _, _, _, rfl, hi, hr, hrt, htg, ht, he⟩, nd, hb, hit, hh⟩
theorem JLc.pe {own : List (Str × Nat)} {elt tg iter : Expr} {ifs : List Expr} {scope : Scope} {f : DS → Option ER} {pos : Pos} (h : JLc E G p own elt tg iter ifs scope f) : JE E G p false false (.ListComp elt [⟨tg, iter, ifs, 0⟩] scope pos) f := fun X W hA hT => by
  obtain ⟨⟨fs, tgf, t, fe, q1, q2, q3, rt, rfl, hi, hr, hrt, ⟨g, hg1, hg2⟩, ht, he⟩, nd, hb, hit, hh⟩ := h
  refine PE.monoL (pe_lc (own := own) (hA.calm hh) (by rw [hA.N]; exact nd) (hi X W hA hT) (by rw [hA.N, hA.sc]; exact blkOk_by hb) (fun s H C cl fp => hg2 _ (hA.blk s H scope C cl fp)) (fun s H C cl fp => ht _ W0 (hA.blk s H scope C cl fp) takes_w0) (fun s H C cl fp => he _ W0 (hA.blk s H scope C cl fp) takes_w0) (hit _)) fun σ H Q hl h => ?_
  exact rd_lc (fun _ _ _ h => h) hg1 (fun _ _ _ h => h) (fun _ _ _ h => h) (fun δ i d xs δ' e => hrt i (hr δ i d xs δ' e)) σ H Q (by rw [hl, hA.N]) h
end
end PD
/-! P, part 16: the rules of P for statements and defs. -/
namespace PD
open PySem L2

section
variable {E : En} {G : GC} {p : Pl} {X : Cx} {n : Nat} {pn : List Nat}
theorem s_asg {qt : Bool} {i : Nat} {x : Str} {q pos : Pos} {e : Expr} {f : DS → Option ER} (h : stOk p i x = true) (hN : p.N.Nodup) (hi : i < n) (hp : i ∉ pn) (ha : JE E G p false qt e f) (hsw : ∀ env : Env, env.scope = p.sc → swapsWith e (some (.Name x q)) pos.line env = pure false := by exact fun _ _ => rfl) : JS E G p n pn (.Assign [.Name x q] e pos) (evAsg i f) := fun X W hA hT _ => by
  unfold stOk at h
  simp only [Bool.and_eq_true, Bool.or_eq_true, decide_eq_true_eq] at h
  refine PS.mono (ps_set (by rw [hA.N]; exact hN) (by rw [hA.N]; exact h.1) ?_ (ha X W hA hT) (hsw _ hA.sc) ?_) (rd_asg hi hp fun _ _ _ h => h)
  · rw [hA.sc]; exact h.2.elim (fun z => .inr z.1) .inl
  · rw [hA.sc, hA.fn]; exact h.2.elim (fun z => .inl z.2) .inr
theorem sw_cell {elt : Expr} {gs : List Comprehension} {scope : Scope} {pos py : Pos} {y : Str} {l : Nat} {env : Env} (h : (env.scope.names.lookup y == some .local) = false) : swapsWith (.ListComp elt gs scope pos) (some (.Name y py)) l env = pure false := by
  show pure _ = _
  have : (env.kindOf y == some NameKind.local) = false := h
  rw [this]
  simp
theorem s_asgLc {own : List (Str × Nat)} {i : Nat} {x : Str} {q pos spos : Pos} {elt tg iter : Expr} {ifs : List Expr} {scope : Scope} {f : DS → Option ER} (hx : p.N[i]? = some x) (hl : p.sc.names.lookup x = some .local) (hk : p.sc.kind = .function) (hi : i < p.N.length) (hp : i ∉ pn) (h : JLc E G p own elt tg iter ifs scope f)
    (hq : (q.line == pos.line) = true) (hs : (scope.names.any fun x' => match x' with | (m, k) => m == x && (k == .local || k == .cell)) = false) : JS E G p p.N.length pn (.Assign [.Name x q] (.ListComp elt [⟨tg, iter, ifs, 0⟩] scope pos) spos) (evAsg i f) := fun X W hA hT _ => by
  obtain ⟨⟨fs, tgf, t, fe, q1, q2, q3, rt, rfl, hji, hr, hrt, ⟨g, hg1, hg2⟩, ht, he⟩, nd, hb, hit, hh⟩ := h
  have P0 := ps_setLc (i := i) (y := x) (py := q) (pos := pos) (spos := spos) (own := own) (hA.calm hh) (by rw [hA.N]; exact nd) (by rw [hA.N]; exact hx) (by rw [hA.sc]; exact hl) (sw_true (by rw [hA.sc]; exact hk) (by rw [hA.sc]; exact hl) hq hs) (hji X W hA hT) (by rw [hA.N, hA.sc]; exact blkOk_by hb) (fun s H C cl fp => hg2 _ (hA.blk s H scope C cl fp)) (fun s H C cl fp => ht _ W0 (hA.blk s H scope C cl fp) takes_w0) (fun s H C cl fp => he _ W0 (hA.blk s H scope C cl fp) takes_w0) (hit _)
  refine PS.mono P0 fun D σ H h => ?_
  have key : ∀ σ H Q, rdE G W false false (evLc fs tgf t fe (own.map (·.2))) σ H Q → (fun σ H Q => σ.length = p.N.length → tLc (rdI G W q1 fs) g (rdT G W0 q2 t) (rdE G W0 false q3 fe) (own.map (·.2)) σ H Q) σ H Q := fun σ H Q h hl => rd_lc (fun _ _ _ h => h) hg1 (fun _ _ _ h => h) (fun _ _ _ h => h) (fun δ i d xs δ' e => hrt i (hr δ i d xs δ' e)) σ H Q hl h
  exact rd_asg hi hp key D σ H h h.1
theorem s_set {qt q2 vk : Bool} {i : Nat} {x : Str} {q r pos : Pos} {e ek : Expr} {f fk : DS → Option ER} (hG : G.K = E.K) (h : nmOk p i x = true) (ha : JE E G p false qt e f) (hk : JE E G p vk q2 ek fk)
    (h1 : ∀ (env : Env) (v : Value), assign (.Subscript (.Name x q) ek r) env v = (do
      let ov ← holding [v] (eval (.Name x q) env)
      let iv ← holding [v, ov] (eval ek env)
      standAt r
      holding [v, ov, iv] (setItem ov iv v)
      release [v, ov, iv] []) := by exact fun _ _ => rfl)
    (h2 : ∀ env : Env, swapsWithSole [.Subscript (.Name x q) ek r] e pos.line env = pure false := by exact fun _ => rfl) (h3 : ∀ env : Env, swappedStores [.Subscript (.Name x q) ek r] e env = pure none := by exact fun _ => rfl)
    (h4 : ∀ env : Env, (assignEach [.Subscript (.Name x q) ek r] env).map (fun x => x.2) = [assign (.Subscript (.Name x q) ek r) env] := by exact fun _ => rfl) : JS E G p n pn (.Assign [.Subscript (.Name x q) ek r] e pos) (evSet i f fk) := fun X W hA hT _ =>
  PS.mono (ps_asg (ha X W hA hT) (pg_sub (at_pe h hA) (hk X W hA hT) set_list (h1 _)) (h2 _) (h3 _) (h4 _)) (rd_set (fun _ _ _ h => h) fun _ _ _ h => h)
theorem s_app {qt : Bool} {i : Nat} {x : Str} {q a c pos : Pos} {e : Expr} {f : DS → Option ER} (hG : G.K = E.K) (h : nmOk p i x = true) (ha : JE E G p false qt e f) (h0 : ∀ env : Env, attributeBase (.Name x q) (Str.ofString "append") env (eval (.Name x q) env) = eval (.Name x q) env := by exact fun _ => rfl) (hs : StarNo e [] := by exact fun _ => rfl) (hp : (a.endLine == c.line) = true := by rfl)
    (h2 : ∀ env : Env, ((((backTo c (starEach [e] env)).all fun x => !x.1) && ((backToKw c (keywordEach [] env)).all fun x => x.1.isSome)) && decide (([e].length + ([] : List Keyword).length + if ([] : List Keyword).isEmpty = true then 0 else 1) < 30)) = true := by exact fun _ => rfl)
    (h3 : ∀ env : Env, swapsWith (.Call (.Attribute (.Name x q) (Str.ofString "append") a) [e] [] c) none pos.line env = pure false := by exact fun _ => rfl) : JS E G p n pn (.Expr (.Call (.Attribute (.Name x q) (Str.ofString "append") a) [e] [] c) pos) (evApp i f) := fun X W hA hT _ => by
  have P0 := ps_expr (pos := pos) (pe_bm (apos := a) (cpos := c) PySem.F.plainAttrs_list PySem.F.slot_list_append PySem.F.type_list_append mt_append (at_pe h hA) (pa_cons (ha X W hA hT) pa_nil (hs _)) (h0 _) (h2 _) hp (hs _) (by rfl)) (h3 _)
  refine PS.mono P0 ?_
  have := rd_app (G := G) (W := W) (n := n) (pn := pn) (i := i) (qt := qt) (f := f) trivial fun _ _ _ h => h
  rw [hG, ← hA.K] at this
  exact this
theorem s_expr {vw qt : Bool} {e : Expr} {pos : Pos} {f : DS → Option ER} (ha : JE E G p vw qt e f) (h3 : ∀ env : Env, swapsWith e none pos.line env = pure false := by exact fun _ => rfl) : JS E G p n pn (.Expr e pos) (evDrop f) := fun X W hA hT _ => PS.mono (ps_expr (ha X W hA hT) (h3 _)) (rd_drop fun _ _ _ h => h)
theorem s_ret {qt : Bool} {e : Expr} {pos : Pos} {f : DS → Option ER} (ha : JE E G p false qt e f) : JS E G p n pn (.Return (some e) pos) (evRet f) := fun X W hA hT _ => PS.mono (ps_ret (ha X W hA hT)) (rd_ret fun _ _ _ h => h)
theorem s_retN {pos : Pos} : JS E G p n pn (.Return none pos) evRetN := fun X W hA hT _ => PS.mono ps_retN rd_retN
theorem s_brk {pos : Pos} : JS E G p n pn (.Break pos) evBrk := fun X W hA hT _ => PS.mono ps_break rd_brk
theorem s_cnt {pos : Pos} : JS E G p n pn (.Continue pos) evCnt := fun X W hA hT _ => PS.mono ps_continue rd_cnt
theorem s_pass {pos : Pos} : JS E G p n pn (.Pass pos) evNx := fun X W hA hT _ => PS.mono ps_pass rd_nx
theorem s_if {q1 : Bool} {c : Expr} {a b : List Stmt} {pos : Pos} {t : DS → Option EB} {f g : DS → Option ES} (hc : JT E G p q1 c t) (ha : JSs E G p n pn a f) (hb : JSs E G p n pn b g) : JS E G p n pn (.If c a b pos) (evIfS t f g) := fun X W hA hT hP => PS.mono (ps_if (hc X W hA hT) (ha X W hA hT hP) (hb X W hA hT hP)) (rd_ifS (fun _ _ _ h => h) (fun _ _ _ h => h) fun _ _ _ h => h)
theorem s_for {q1 : Bool} {rt : Option Nat} {pn' : List Nat} {tg iter : Expr} {body : List Stmt} {pos : Pos} {fs : DS → Option EI} {tgf : D → DS → Option DS} {f : DS → Option ES} (hi : JI E G p q1 tg iter fs) (hr : Rt fs rt) (hrt : ∀ i, rt = some i → i ∈ pn') (hpn : ∀ j ∈ pn, j ∈ pn') (htg : JTg E G p n pn' tg tgf) (hb : JSs E G p n pn' body f) (hh : p.hot = false := by rfl) (hit : ∀ env x, foldedSetIterable iter env x = pure x := by exact fun _ _ => rfl) :
    JS E G p n pn (.For tg iter body [] pos) (evFor fs tgf f) := fun X W hA hT hP => by
  obtain ⟨g, hg1, hg2⟩ := htg
  exact PS.mono (ps_for hP (hA.calm hh) (hi X W hA hT) (hg2 X hA) (hb X W hA hT hP) (hit _)) (rd_for (fun _ _ _ h => h) hg1 (fun _ _ _ h => h) hpn fun δ i d xs δ' e => hrt i (hr δ i d xs δ' e))
theorem s_whl {qt : Bool} {c : Expr} {body : List Stmt} {pos : Pos} {t : DS → Option EB} {f : DS → Option ES} (k0 : Nat) (hc : JT E G p qt c t) (hb : JSs E G p n pn body f) : JS E G p n pn (.While c body [] pos) (evWhl t f k0) := fun X W hA hT hP => PS.mono (ps_while hP (hc X W hA hT) (hb X W hA hT hP)) (rd_whl (fun _ _ _ h => h) fun _ _ _ h => h)
theorem ss_nil : JSs E G p n pn [] evNx := fun X W hA hT hP => PSs.mono pss_nil rd_nx
theorem ss_cons {st : Stmt} {r : List Stmt} {f g : DS → Option ES} (hs : JS E G p n pn st f) (hr : JSs E G p n pn r g) : JSs E G p n pn (st :: r) (evSeq f g) := fun X W hA hT hP => PSs.mono (pss_cons (hs X W hA hT hP) (hr X W hA hT hP)) (rd_seq (fun _ _ _ h => h) fun _ _ _ h => h)
end
/-- a def's place -/
abbrev fnPl (N : List Str) (k : Nat) (scope : Scope) : Pl := ⟨N, k, scope, fun _ => true, false, false⟩
theorem fd_of {E : En} {G : GC} {x : Str} {params : Arguments} {body : List Stmt} {scope : Scope} {dvl : List V} {f : Addr} {fd : FuncData} {N ps : List Str} {k : Nat} {m : Bool} {ev : DS → Option ES} (F : FunD E.K x x params body scope dvl [] f fd) (hm : E.mg x = some (.ref f)) (S : FnScope N ps scope) (hl : ps.length ≤ N.length) (h0 : m = true → 0 < ps.length)
    (hb : JSs E G (fnPl N k scope) N.length (if m = true then [0] else []) body ev) : FnOk E.P E.w E.K E.mg E.base (CX E.P E.w) (k + 1) f fd ps (spF G (fnOf N.length ps.length m ev)) := by
  refine F.ok S (fun vs H Q Ex h => ?_) (fun cdv A outer s H vs Q Ex hr h => ?_)
  · obtain ⟨ds, Z, S, FS, sr, ⟨r, hr⟩, _⟩ := h
    have := fnOf_len hr
    have := sr.len
    simp at this
    omega
  · refine ⟨_, hb _ (fun c dd _ H => Ex c dd H) ⟨rfl, rfl, rfl, rfl, rfl, rfl, Nat.lt_of_le_of_lt (Nat.add_le_add_right (Nat.le_add_right _ (16 * k)) 200) hr.un, fun _ => hr, fun _ => rfl, rfl, rfl, fun _ => ⟨rfl, rfl⟩⟩ (takes_of rfl rfl rfl rfl) (passes_of rfl), ?_⟩
    exact rd_fn (t := rdS G (fun c dd _ H => Ex c dd H) N.length (if m = true then [0] else []) ev) rfl hl h0 (fun _ _ _ h => h) h
theorem fd_all {E : En} {G : GC} {x : Str} {k : Nat} {F : FD} {f : Addr} {fd : FuncData} {ps : List Str} (h : FnOk E.P E.w E.K E.mg E.base (CX E.P E.w) k f fd ps (spF G F)) (hm : E.mg x = some (.ref f)) (hk : PySem.W.keepIn E.K (.ref f) = true) (hb : Binds E.K fd ps []) : Fd E G x k F [] :=
  ⟨f, fd, ps, [], [], h, hm, hk, hb, .nil, fun _ _ => ⟨rfl, fun i d v e => by simp at e⟩⟩
end PD
/-! P, part 17: the law's own promise. -/
namespace PD
open PySem L2
theorem cx_no {P : Program} {w : World} {H : Hp} {s : Shared} {e : Value} {s' : Shared} (h : CX P w [] H s (fun _ _ _ => False) e s') : False := by
  obtain ⟨_, _, _, _, _, _, _, _, _, _, _, _, h⟩ := h
  exact h
/-- what the plain law says -/
def LawOk (F : FD) (ns : List Int) : Prop := ∃ δ, F [.lst .k (ns.map .int)] = some (.ok (.bl true), δ)
theorem law_sp {G : GC} {F : FD} {H : Hp} {a : Addr} {ns : List Int} (hS : SqL G.K H a (ns.map V.int)) (hF : LawOk F ns) : spF G F [.ref a] H (fun v _ => v = V.bl true) fun _ _ _ => False := by
  obtain ⟨δ0, hF⟩ := hF
  have hint : ∀ {Z : AS} (i : Nat) d v, (ns.map D.int)[i]? = some d → (ns.map V.int)[i]? = some v → RepF G Z H d v := fun {Z} i d v e1 e2 => by
    obtain ⟨x, f1, rfl⟩ := getMap e1
    obtain ⟨y, f2, rfl⟩ := getMap e2
    rw [f1] at f2; cases f2
    exact .int _
  have key : ∀ Z : AS, (∀ x, Z x → ∃ o, H x = some o) → RepF G Z H (.lst .k (ns.map .int)) (.ref a) → spF G F [.ref a] H (fun v _ => v = V.bl true) fun _ _ _ => False := fun Z hz r => by
    refine ⟨[.lst .k (ns.map .int)], Z, fun _ => S0, fun _ => S0, ⟨rfl, fun i d e => ?_, fun _ _ _ z => z, fun _ _ _ z => z.elim, hz, fun x ⟨_, z⟩ => z.elim, fun x ⟨_, z⟩ => z.elim⟩, ⟨_, hF⟩, fun d δ' e v H' Z' FS' A p => ?_, fun x δ' e => ?_⟩
    · cases i with
      | zero => simp at e; subst e; exact ⟨_, rfl, .fz r fun _ z => z⟩
      | succ i => simp at e
    · rw [hF] at e
      cases e
      have vl := p.vl
      rw [if_neg Bool.false_ne_true] at vl
      exact vl.1.blV
    · rw [hF] at e; cases e
  rcases hS with hS | hS
  · refine key (fun x => x = a) (fun x e => ?_) (.lsk (.inl ⟨rfl, hS⟩) (by simp) hint)
    subst e
    rcases hS with h | ⟨o, h⟩
    · exact ⟨_, h⟩
    · exact ⟨_, h⟩
  · exact key S0 (fun _ z => z.elim) (.lsk (.inr hS) (by simp) hint)
theorem cx_no' {P : Program} {w : World} {o : List Env} {H : Hp} {s : Shared} {e : Value} {s' : Shared} (h : CX P w o H s (fun _ _ _ => False) e s') : False := by
  obtain ⟨_, _, _, _, _, _, _, _, _, _, _, _, h⟩ := h
  exact h
/-- a def that lets nothing out -/
theorem fnOk0 {P : Program} {w : World} {K : PySem.W.Frag} {mg : Str → Option Value} {base : Heap} {k : Nat} {f : Addr} {fd : FuncData} {ps : List Str} {sp : Sp} (F : FnOk P w K mg base (CX P w) k f fd ps sp) : FnOk P w K mg base CX0 k f fd ps (fun vs H Q _ => sp vs H Q fun _ _ _ => False) where
  len := fun vs H Q E h => F.len vs H Q _ h
  run := fun A outer s H args us vs Q E hr e b v h => codeAny_mono (F.run A outer s H args us vs Q _ hr e b v h) fun r s' h => by
    cases r with
    | ok fl => cases fl <;> exact h
    | error e => exact (cx_no' h).elim
end PD
/-! P, part 18: the evaluator told forwards: what is wanted behind a piece, in terms of what is wanted behind its parts. -/
namespace PD
open PySem L2

def GE {α : Type} (f : DS → Option (RR α × DS)) (δ : DS) (Q : RR α → DS → Prop) : Prop := ∃ r δ', f δ = some (r, δ') ∧ Q r δ'
def Go (f : DS → Option ES) (δ : DS) (Q : Out → DS → Prop) : Prop := ∃ o δ', f δ = some (o, δ') ∧ Q o δ'
def kk {α β : Type} (k : α → DS → Prop) (Q : RR β → DS → Prop) : RR α → DS → Prop
  | .ok a, δ => k a δ
  | .ex x, δ => Q (.ex x) δ
def kS {α : Type} (k : α → DS → Prop) (Q : Out → DS → Prop) : RR α → DS → Prop
  | .ok a, δ => k a δ
  | .ex x, δ => Q (.ex x) δ
/-- what slot i holds -/
def sl (δ : DS) (i : Nat) (k : D → Prop) : Prop := ∃ d, δ[i]? = some (some d) ∧ k d
def has {α : Type} (o : Option α) (k : α → Prop) : Prop := ∃ a, o = some a ∧ k a
theorem kk_ok {α β : Type} {k : α → DS → Prop} {Q : RR β → DS → Prop} {a : α} {δ : DS} : kk k Q (.ok a) δ = k a δ := rfl
theorem kk_ex {α β : Type} {k : α → DS → Prop} {Q : RR β → DS → Prop} {x : Xc} {δ : DS} : kk k Q (.ex x) δ = Q (.ex x) δ := rfl
theorem kS_ok {α : Type} {k : α → DS → Prop} {Q : Out → DS → Prop} {a : α} {δ : DS} : kS k Q (.ok a) δ = k a δ := rfl
theorem kS_ex {α : Type} {k : α → DS → Prop} {Q : Out → DS → Prop} {x : Xc} {δ : DS} : kS k Q (.ex x) δ = Q (.ex x) δ := rfl
theorem has_some {α : Type} {a : α} {k : α → Prop} : has (some a) k = k a := propext ⟨fun ⟨_, e, h⟩ => (by cases e; exact h), fun h => ⟨a, rfl, h⟩⟩
theorem has_none {α : Type} {k : α → Prop} : has (none : Option α) k = False := propext ⟨fun ⟨_, e, _⟩ => (by cases e), False.elim⟩
theorem sl_0 {d : D} {δ : DS} {k : D → Prop} : sl (some d :: δ) 0 k = k d := propext ⟨fun ⟨_, e, h⟩ => (by cases e; exact h), fun h => ⟨d, rfl, h⟩⟩
theorem sl_0n {δ : DS} {k : D → Prop} : sl (none :: δ) 0 k = False := propext ⟨fun ⟨_, e, h⟩ => (by cases e), False.elim⟩
theorem sl_s {o : Option D} {δ : DS} {i : Nat} {k : D → Prop} : sl (o :: δ) (i + 1) k = sl δ i k := rfl
/-- δ with slot i set, for lists written out -/
def st : DS → Nat → Option D → DS
  | [], _, _ => []
  | _ :: δ, 0, d => d :: δ
  | o :: δ, i + 1, d => o :: st δ i d
theorem st_eq : ∀ (δ : DS) (i : Nat) (d : Option D), δ.set i d = st δ i d
  | [], _, _ => rfl
  | _ :: _, 0, _ => rfl
  | o :: δ, i + 1, d => by rw [List.set_cons_succ, st_eq δ i d]; rfl
theorem st_0 {o d : Option D} {δ : DS} : st (o :: δ) 0 d = d :: δ := rfl
theorem st_s {o d : Option D} {δ : DS} {i : Nat} : st (o :: δ) (i + 1) d = o :: st δ i d := rfl
section
variable {α : Type} {Q : RR D → DS → Prop} {QA : RR (List D) → DS → Prop} {QB : RR Bool → DS → Prop} {QI : RR Sr → DS → Prop} {QS : Out → DS → Prop} {δ : DS}
theorem bindG {α β : Type} {f : DS → Option (RR α × DS)} {f' : DS → Option (RR β × DS)} {h : α → DS → Option (RR β × DS)} {Q : RR β → DS → Prop} {δ : DS}
    (e : f' δ = match f δ with | none => none | some (.ex x, δ') => some (.ex x, δ') | some (.ok a, δ') => h a δ') : GE f' δ Q = GE f δ (kk (fun a δ' => ∃ r δ2, h a δ' = some (r, δ2) ∧ Q r δ2) Q) := by
  refine propext ⟨fun ⟨r, δ', e1, q⟩ => ?_, fun ⟨r, δ', e1, q⟩ => ?_⟩
  · rw [e] at e1
    cases e2 : f δ with
    | none => rw [e2] at e1; cases e1
    | some w =>
      obtain ⟨w, δ1⟩ := w
      rw [e2] at e1
      cases w with
      | ok a => exact ⟨.ok a, δ1, e2, r, δ', e1, q⟩
      | ex x => cases e1; exact ⟨.ex x, _, e2, q⟩
  · cases r with
    | ok a =>
      obtain ⟨r, δ2, e2, q⟩ := q
      refine ⟨r, δ2, ?_, q⟩
      rw [e, e1]; exact e2
    | ex x =>
      refine ⟨.ex x, δ', ?_, q⟩
      rw [e, e1]
theorem bindS {α : Type} {f : DS → Option (RR α × DS)} {f' : DS → Option ES} {h : α → DS → Option ES} {Q : Out → DS → Prop} {δ : DS}
    (e : f' δ = match f δ with | none => none | some (.ex x, δ') => some (.ex x, δ') | some (.ok a, δ') => h a δ') : Go f' δ Q = GE f δ (kS (fun a δ' => ∃ r δ2, h a δ' = some (r, δ2) ∧ Q r δ2) Q) := by
  refine propext ⟨fun ⟨r, δ', e1, q⟩ => ?_, fun ⟨r, δ', e1, q⟩ => ?_⟩
  · rw [e] at e1
    cases e2 : f δ with
    | none => rw [e2] at e1; cases e1
    | some w =>
      obtain ⟨w, δ1⟩ := w
      rw [e2] at e1
      cases w with
      | ok a => exact ⟨.ok a, δ1, e2, r, δ', e1, q⟩
      | ex x => cases e1; exact ⟨.ex x, _, e2, q⟩
  · cases r with
    | ok a =>
      obtain ⟨r, δ2, e2, q⟩ := q
      refine ⟨r, δ2, ?_, q⟩
      rw [e, e1]; exact e2
    | ex x =>
      refine ⟨.ex x, δ', ?_, q⟩
      rw [e, e1]
theorem ex2 {α : Type} {a : α} {δ : DS} {Q : α → DS → Prop} : (∃ r δ2, some (a, δ) = some (r, δ2) ∧ Q r δ2) = Q a δ := propext ⟨fun ⟨_, _, e, q⟩ => (by cases e; exact q), fun q => ⟨_, _, rfl, q⟩⟩
theorem ex2n {α : Type} {Q : α → DS → Prop} : (∃ r δ2, (none : Option (α × DS)) = some (r, δ2) ∧ Q r δ2) = False := propext ⟨fun ⟨_, _, e, q⟩ => (by cases e), False.elim⟩
theorem kkc {α β : Type} {k k' : α → DS → Prop} {Q : RR β → DS → Prop} (h : ∀ a δ, k a δ = k' a δ) : kk k Q = kk k' Q := by
  have : k = k' := funext fun a => funext fun δ => h a δ
  rw [this]
theorem kSc {α : Type} {k k' : α → DS → Prop} {Q : Out → DS → Prop} (h : ∀ a δ, k a δ = k' a δ) : kS k Q = kS k' Q := by
  have : k = k' := funext fun a => funext fun δ => h a δ
  rw [this]
theorem hasC {α β : Type} {o : Option α} {g : α → β} {δ : DS} {Q : β → DS → Prop} : (∃ r δ2, (match o with | none => none | some a => some (g a, δ)) = some (r, δ2) ∧ Q r δ2) = has o fun a => Q (g a) δ := by
  cases o with
  | none => rw [has_none]; exact ex2n
  | some a => rw [has_some]; exact ex2
theorem iteC {α : Type} {c : Prop} [Decidable c] {a b : Option (α × DS)} {Q : α → DS → Prop} : (∃ r δ2, (if c then a else b) = some (r, δ2) ∧ Q r δ2) = if c then (∃ r δ2, a = some (r, δ2) ∧ Q r δ2) else ∃ r δ2, b = some (r, δ2) ∧ Q r δ2 := by
  by_cases h : c
  · rw [if_pos h, if_pos h]
  · rw [if_neg h, if_neg h]
theorem iteN {α : Type} {c : Prop} [Decidable c] {a : Option (α × DS)} {Q : α → DS → Prop} : (∃ r δ2, (if c then a else none) = some (r, δ2) ∧ Q r δ2) = (c ∧ ∃ r δ2, a = some (r, δ2) ∧ Q r δ2) := by
  by_cases h : c
  · rw [if_pos h]; exact propext ⟨fun q => ⟨h, q⟩, fun q => q.2⟩
  · rw [if_neg h, ex2n]; exact propext ⟨False.elim, fun q => h q.1⟩
/-! expressions -/
theorem e_cst {d : D} : GE (evCst d) δ Q = Q (.ok d) δ := ex2
theorem e_nil : GE evNil δ QA = QA (.ok []) δ := ex2
theorem e_yes : GE evYes δ QB = QB (.ok true) δ := ex2
theorem slC {β : Type} {i : Nat} {g : D → Option (β × DS)} {Q : β → DS → Prop} : (∃ r δ2, (match δ[i]? with | some (some d) => g d | _ => none) = some (r, δ2) ∧ Q r δ2) = sl δ i fun d => ∃ r δ2, g d = some (r, δ2) ∧ Q r δ2 := by
  unfold sl
  cases e : δ[i]? with
  | none => exact propext ⟨fun ⟨_, _, e, _⟩ => (by cases e), fun ⟨_, e, _⟩ => (by cases e)⟩
  | some o =>
    cases o with
    | none => exact propext ⟨fun ⟨_, _, e, _⟩ => (by cases e), fun ⟨_, e, _⟩ => (by cases e)⟩
    | some d => exact propext ⟨fun h => ⟨d, rfl, h⟩, fun ⟨_, e, h⟩ => (by cases e; exact h)⟩
theorem e_var {i : Nat} : GE (evVar i) δ Q = sl δ i fun d => Q (.ok d) δ := by
  refine Eq.trans (slC (β := RR D) (Q := Q) (δ := δ) (i := i) (g := fun d => some (.ok d, δ))) (congrArg _ (funext fun d => ex2))
theorem e_fv {i : Nat} : GE (evFv i) δ Q = sl δ i fun d => if isF d = true then Q (.ok d) δ else noL d = true ∧ Q (.ok (frz d)) (st δ i (some (frz d))) := by
  refine Eq.trans (slC (β := RR D) (Q := Q) (δ := δ) (i := i) (g := fun d => if isF d then some (.ok d, δ) else if noL d then some (.ok (frz d), δ.set i (some (frz d))) else none)) (congrArg _ (funext fun d => ?_))
  rw [iteC, ex2, iteN, ex2, st_eq]
theorem e_mv {i : Nat} : GE (evMv i) δ Q = sl δ i fun d => noL d = true ∧ Q (.ok d) (st δ i none) := by
  refine Eq.trans (slC (β := RR D) (Q := Q) (δ := δ) (i := i) (g := fun d => if noL d then some (.ok d, δ.set i none) else none)) (congrArg _ (funext fun d => ?_))
  rw [iteN, ex2, st_eq]
theorem e_cons {vw qr : Bool} {fa : DS → Option ER} {fr : DS → Option EA} : GE (evCons vw qr fa fr) δ QA = GE fa δ (kk (fun d δ1 => (vw && !qr && !isF d) = false ∧ GE fr δ1 (kk (fun ds δ2 => QA (.ok (d :: ds)) δ2) QA)) QA) := by
  refine Eq.trans (bindG (h := fun d δ1 => if vw && !qr && !isF d then none else match fr δ1 with | none => none | some (.ex x, δ2) => some (.ex x, δ2) | some (.ok ds, δ2) => some (.ok (d :: ds), δ2)) (by unfold evCons; rcases fa δ with _ | ⟨_ | _, _⟩ <;> rfl)) (congrArg _ (kkc fun d δ1 => ?_))
  have := bindG (f := fr) (f' := fun δ1 => match fr δ1 with | none => none | some (.ex x, δ2) => some (.ex x, δ2) | some (.ok ds, δ2) => some (.ok (d :: ds), δ2)) (h := fun ds δ2 => some (.ok (d :: ds), δ2)) (Q := QA) (δ := δ1) (by rcases fr δ1 with _ | ⟨_ | _, _⟩ <;> rfl)
  rw [show kk (fun ds δ2 => QA (.ok (d :: ds)) δ2) QA = kk (fun ds δ2 => ∃ r δ3, some (RR.ok (d :: ds), δ2) = some (r, δ3) ∧ QA r δ3) QA from kkc fun a b => ex2.symm, ← this]
  rw [iteC, ex2n]
  unfold GE
  cases vw && !qr && !isF d with
  | true => simp
  | false => simp
theorem e_dfr {i : Nat} {fr : DS → Option EA} : GE (evDefer i fr) δ QA = sl δ i fun _ => GE fr δ (kk (fun ds δ2 => sl δ2 i fun d => QA (.ok (d :: ds)) δ2) QA) := by
  refine Eq.trans (slC (β := RR (List D)) (Q := QA) (δ := δ) (i := i) (g := fun _ => match fr δ with | none => none | some (.ex x, δ2) => some (.ex x, δ2) | some (.ok ds, δ2) => match δ2[i]? with | some (some d) => some (.ok (d :: ds), δ2) | _ => none)) (congrArg _ (funext fun d => ?_))
  refine Eq.trans (bindG (f := fr) (f' := fun δ => match fr δ with | none => none | some (.ex x, δ2) => some (.ex x, δ2) | some (.ok ds, δ2) => match δ2[i]? with | some (some d) => some (.ok (d :: ds), δ2) | _ => none) (h := fun ds δ2 => match δ2[i]? with | some (some d) => some (.ok (d :: ds), δ2) | _ => none) (by rcases fr δ with _ | ⟨_ | _, _⟩ <;> rfl)) (congrArg _ (kkc fun ds δ2 => ?_))
  exact Eq.trans (slC (β := RR (List D)) (Q := QA) (δ := δ2) (i := i) (g := fun d => some (.ok (d :: ds), δ2))) (congrArg _ (funext fun d => ex2))
theorem e_op {g : List D → Option D} {fa : DS → Option EA} : GE (evOp g fa) δ Q = GE fa δ (kk (fun ds δ' => has (g ds) fun d => Q (.ok d) δ') Q) :=
  Eq.trans (bindG (h := fun ds δ' => match g ds with | none => none | some d => some (.ok d, δ')) (by unfold evOp; rcases fa δ with _ | ⟨_ | _, _⟩ <;> rfl)) (congrArg _ (kkc fun ds δ' => by generalize g ds = o; cases o with | none => rw [has_none]; exact ex2n | some a => rw [has_some]; exact ex2))
theorem e_tup {ks : List Bool} {fa : DS → Option EA} : GE (evTup ks fa) δ Q = GE fa δ (kk (fun ds δ' => (capOk ks ds && decide (ds.length ≤ 1000)) = true ∧ Q (.ok (.tup (ds.map cap))) δ') Q) :=
  Eq.trans (bindG (h := fun ds δ' => if capOk ks ds && decide (ds.length ≤ 1000) then some (.ok (.tup (ds.map cap)), δ') else none) (by unfold evTup; rcases fa δ with _ | ⟨_ | _, _⟩ <;> rfl)) (congrArg _ (kkc fun _ _ => by rw [iteN, ex2]))
theorem e_lst {ks : List Bool} {fa : DS → Option EA} : GE (evLst ks fa) δ Q = GE fa δ (kk (fun ds δ' => (capOk ks ds && decide (ds.length ≤ 1000)) = true ∧ Q (.ok (.lst .o (ds.map cap))) δ') Q) :=
  Eq.trans (bindG (h := fun ds δ' => if capOk ks ds && decide (ds.length ≤ 1000) then some (.ok (.lst .o (ds.map cap)), δ') else none) (by unfold evLst; rcases fa δ with _ | ⟨_ | _, _⟩ <;> rfl)) (congrArg _ (kkc fun _ _ => by rw [iteN, ex2]))
theorem e_tr {g : D → Option Bool} {f : DS → Option ER} : GE (evTr g f) δ QB = GE f δ (kk (fun d δ' => has (g d) fun b => QB (.ok b) δ') QB) :=
  Eq.trans (bindG (h := fun d δ' => match g d with | none => none | some b => some (.ok b, δ')) (by unfold evTr; rcases f δ with _ | ⟨_ | _, _⟩ <;> rfl)) (congrArg _ (kkc fun d δ' => by generalize g d = o; cases o with | none => rw [has_none]; exact ex2n | some a => rw [has_some]; exact ex2))
theorem e_notT {f : DS → Option EB} : GE (evNotT f) δ QB = GE f δ (kk (fun b δ' => QB (.ok (!b)) δ') QB) :=
  Eq.trans (bindG (h := fun b δ' => some (.ok (!b), δ')) (by unfold evNotT; rcases f δ with _ | ⟨_ | _, _⟩ <;> rfl)) (congrArg _ (kkc fun _ _ => ex2))
theorem e_andT {f g : DS → Option EB} : GE (evAndT f g) δ QB = GE f δ (kk (fun b δ' => if b = true then GE g δ' QB else QB (.ok false) δ') QB) :=
  Eq.trans (bindG (h := fun b δ' => if b = true then g δ' else some (.ok false, δ')) (by unfold evAndT; rcases f δ with _ | ⟨_ | _, _⟩ <;> rfl)) (congrArg _ (kkc fun _ _ => by rw [iteC, ex2]; rfl))
theorem e_orT {f g : DS → Option EB} : GE (evOrT f g) δ QB = GE f δ (kk (fun b δ' => if b = true then QB (.ok true) δ' else GE g δ' QB) QB) :=
  Eq.trans (bindG (h := fun b δ' => if b = true then some (.ok true, δ') else g δ') (by unfold evOrT; rcases f δ with _ | ⟨_ | _, _⟩ <;> rfl)) (congrArg _ (kkc fun _ _ => by rw [iteC, ex2]; rfl))
theorem hasB {β : Type} {o : Option Bool} {δ : DS} {g : Bool → Option (β × DS)} {Q : β → DS → Prop} : (∃ r δ2, (match o with | none => none | some a => g a) = some (r, δ2) ∧ Q r δ2) = has o fun a => ∃ r δ2, g a = some (r, δ2) ∧ Q r δ2 := by
  cases o with
  | none => rw [has_none]; exact ex2n
  | some a => rw [has_some]
theorem e_andV {f g : DS → Option ER} : GE (evAndV f g) δ Q = GE f δ (kk (fun d δ' => has (blD d) fun b => if b = true then GE g δ' Q else Q (.ok (.bl false)) δ') Q) :=
  Eq.trans (bindG (h := fun d δ' => match blD d with | none => none | some b => if b = true then g δ' else some (.ok (.bl false), δ')) (by unfold evAndV; rcases f δ with _ | ⟨_ | _, _⟩ <;> rfl)) (congrArg _ (kkc fun d δ' => by
    generalize blD d = o
    cases o with
    | none => rw [has_none]; exact ex2n
    | some b => rw [has_some]; refine Eq.trans iteC ?_; rw [ex2]; rfl))
theorem e_orV {f g : DS → Option ER} : GE (evOrV f g) δ Q = GE f δ (kk (fun d δ' => has (blD d) fun b => if b = true then Q (.ok (.bl true)) δ' else GE g δ' Q) Q) :=
  Eq.trans (bindG (h := fun d δ' => match blD d with | none => none | some b => if b = true then some (.ok (.bl true), δ') else g δ') (by unfold evOrV; rcases f δ with _ | ⟨_ | _, _⟩ <;> rfl)) (congrArg _ (kkc fun d δ' => by
    generalize blD d = o
    cases o with
    | none => rw [has_none]; exact ex2n
    | some b => rw [has_some]; refine Eq.trans iteC ?_; rw [ex2]; rfl))
theorem e_notV {f : DS → Option ER} : GE (evNotV f) δ Q = GE f δ (kk (fun d δ' => has (blD d) fun b => Q (.ok (.bl (!b))) δ') Q) :=
  Eq.trans (bindG (h := fun d δ' => match blD d with | none => none | some b => some (.ok (.bl (!b)), δ')) (by unfold evNotV; rcases f δ with _ | ⟨_ | _, _⟩ <;> rfl)) (congrArg _ (kkc fun d δ' => by generalize blD d = o; cases o with | none => rw [has_none]; exact ex2n | some a => rw [has_some]; exact ex2))
theorem e_opq {vw : Bool} {f : DS → Option ER} : GE (evOpq vw f) δ Q = GE f δ (kk (fun d δ' => (vw && !isF d) = false ∧ Q (.ok d) δ') Q) :=
  Eq.trans (bindG (h := fun d δ' => if vw && !isF d then none else some (.ok d, δ')) (by unfold evOpq; rcases f δ with _ | ⟨_ | _, _⟩ <;> rfl)) (congrArg _ (kkc fun d δ' => by rw [iteC, ex2n, ex2]; cases vw && !isF d <;> simp))
theorem e_if {t : DS → Option EB} {f g : DS → Option ER} : GE (evIf t f g) δ Q = GE t δ (kk (fun b δ' => if b = true then GE f δ' Q else GE g δ' Q) Q) :=
  Eq.trans (bindG (h := fun b δ' => if b = true then f δ' else g δ') (by unfold evIf; rcases t δ with _ | ⟨_ | _, _⟩ <;> rfl)) (congrArg _ (kkc fun _ _ => by rw [iteC]; rfl))
theorem e_call {F : FD} {ks : List Bool} {dds : List D} {fa : DS → Option EA} : GE (evCall F ks dds fa) δ Q = GE fa δ (kk (fun ds δ' => has (F (argD ks ds ++ dds)) fun r => Q r.1 δ') Q) :=
  Eq.trans (bindG (h := fun ds δ' => match F (argD ks ds ++ dds) with | none => none | some (.ex x, _) => some (.ex x, δ') | some (.ok d, _) => some (.ok d, δ')) (by unfold evCall; rcases fa δ with _ | ⟨_ | _, _⟩ <;> rfl)) (congrArg _ (kkc fun ds δ' => by
    cases e : F (argD ks ds ++ dds) with
    | none => rw [has_none]; exact ex2n
    | some r =>
      obtain ⟨r, δr⟩ := r
      rw [has_some]
      cases r with
      | ok d => exact ex2
      | ex x => exact ex2))
theorem e_callM {F : FD} {i : Nat} {ks : List Bool} {dds : List D} {fr : DS → Option EA} : GE (evCallM F i ks dds fr) δ Q = sl δ i fun _ => GE fr δ (kk (fun ds δ' => sl δ' i fun d => capOk ks ds = true ∧ has (F (d :: (ds.map cap ++ dds))) fun r => Q r.1 (st δ' i (hd0 r.2))) Q) := by
  refine Eq.trans (slC (β := RR D) (Q := Q) (δ := δ) (i := i) (g := fun _ => match fr δ with
    | none => none
    | some (.ex x, δ') => some (.ex x, δ')
    | some (.ok ds, δ') => match δ'[i]? with
      | some (some d) => if capOk ks ds then match F (d :: (ds.map cap ++ dds)) with
        | none => none
        | some (.ex x, δr) => some (.ex x, δ'.set i (hd0 δr))
        | some (.ok r, δr) => some (.ok r, δ'.set i (hd0 δr)) else none
      | _ => none)) (congrArg _ (funext fun d => ?_))
  refine Eq.trans (bindG (f := fr) (f' := fun δ => match fr δ with
    | none => none
    | some (.ex x, δ') => some (.ex x, δ')
    | some (.ok ds, δ') => match δ'[i]? with
      | some (some d) => if capOk ks ds then match F (d :: (ds.map cap ++ dds)) with
        | none => none
        | some (.ex x, δr) => some (.ex x, δ'.set i (hd0 δr))
        | some (.ok r, δr) => some (.ok r, δ'.set i (hd0 δr)) else none
      | _ => none) (h := fun ds δ' => match δ'[i]? with
      | some (some d) => if capOk ks ds then match F (d :: (ds.map cap ++ dds)) with
        | none => none
        | some (.ex x, δr) => some (.ex x, δ'.set i (hd0 δr))
        | some (.ok r, δr) => some (.ok r, δ'.set i (hd0 δr)) else none
      | _ => none) (by rcases fr δ with _ | ⟨_ | _, _⟩ <;> rfl)) (congrArg _ (kkc fun ds δ' => ?_))
  refine Eq.trans (slC (β := RR D) (Q := Q) (δ := δ') (i := i) (g := fun d => if capOk ks ds then match F (d :: (ds.map cap ++ dds)) with
        | none => none
        | some (.ex x, δr) => some (.ex x, δ'.set i (hd0 δr))
        | some (.ok r, δr) => some (.ok r, δ'.set i (hd0 δr)) else none)) (congrArg _ (funext fun d => ?_))
  rw [iteN]
  refine congrArg _ ?_
  cases e : F (d :: (ds.map cap ++ dds)) with
  | none => rw [has_none]; exact ex2n
  | some r =>
    obtain ⟨r, δr⟩ := r
    rw [has_some, ← st_eq]
    cases r with
    | ok d => exact ex2
    | ex x => exact ex2
theorem e_chain {g g' : List D → Option D} {fa fb fc : DS → Option ER} : GE (evChain g g' fa fb fc) δ Q = GE fa δ (kk (fun a δ1 => isF a = true ∧ GE fb δ1 (kk (fun b δ2 => isF b = true ∧ has (g [a, b]) fun d => has (blD d) fun k => if k = true then GE fc δ2 (kk (fun c δ3 => isF c = true ∧ has (g' [b, c]) fun d => has (blD d) fun k => Q (.ok (.bl k)) δ3) Q) else Q (.ok (.bl false)) δ2) Q)) Q) := by
  refine Eq.trans (bindG (f := fa) (h := fun a δ1 => if !isF a then none else match fb δ1 with
    | none => none
    | some (.ex x, δ2) => some (.ex x, δ2)
    | some (.ok b, δ2) => if !isF b then none else match g [a, b] with
      | some (.bl true) => match fc δ2 with
        | none => none
        | some (.ex x, δ3) => some (.ex x, δ3)
        | some (.ok c, δ3) => if !isF c then none else match g' [b, c] with
          | some (.bl k) => some (.ok (.bl k), δ3)
          | _ => none
      | some (.bl false) => some (.ok (.bl false), δ2)
      | _ => none) (by unfold evChain; rcases fa δ with _ | ⟨_ | _, _⟩ <;> rfl)) (congrArg _ (kkc fun a δ1 => ?_))
  rw [iteC, ex2n]
  cases hF : isF a with
  | false => simp
  | true =>
    rw [if_neg (by simp)]
    refine Eq.trans (bindG (α := D) (β := D) (Q := Q) (δ := δ1) (f := fb) (f' := fun δ1 => match fb δ1 with
    | none => none
    | some (.ex x, δ2) => some (.ex x, δ2)
    | some (.ok b, δ2) => if !isF b then none else match g [a, b] with
      | some (.bl true) => match fc δ2 with
        | none => none
        | some (.ex x, δ3) => some (.ex x, δ3)
        | some (.ok c, δ3) => if !isF c then none else match g' [b, c] with
          | some (.bl k) => some (.ok (.bl k), δ3)
          | _ => none
      | some (.bl false) => some (.ok (.bl false), δ2)
      | _ => none) (h := fun b δ2 => if !isF b then none else match g [a, b] with
      | some (.bl true) => match fc δ2 with
        | none => none
        | some (.ex x, δ3) => some (.ex x, δ3)
        | some (.ok c, δ3) => if !isF c then none else match g' [b, c] with
          | some (.bl k) => some (.ok (.bl k), δ3)
          | _ => none
      | some (.bl false) => some (.ok (.bl false), δ2)
      | _ => none) (by rcases fb δ1 with _ | ⟨_ | _, _⟩ <;> rfl)) (by
      rw [show (true = true) = True from by simp, true_and]
      refine congrArg _ (kkc fun b δ2 => ?_)
      rw [iteC, ex2n]
      cases hF : isF b with
      | false => simp
      | true =>
        rw [if_neg (by simp)]
        rw [show (true = true) = True from by simp, true_and]
        cases e : g [a, b] with
        | none => rw [has_none]; exact ex2n
        | some d =>
          rw [has_some]
          cases d with
          | bl k =>
            show _ = has (some k) _
            rw [has_some]
            cases k with
            | false => rw [if_neg Bool.false_ne_true]; exact ex2
            | true =>
              rw [if_pos rfl]
              refine Eq.trans (bindG (α := D) (β := D) (Q := Q) (δ := δ2) (f := fc) (f' := fun δ2 => match fc δ2 with
                | none => none
                | some (.ex x, δ3) => some (.ex x, δ3)
                | some (.ok c, δ3) => if !isF c then none else match g' [b, c] with
                  | some (.bl k) => some (.ok (.bl k), δ3)
                  | _ => none) (h := fun c δ3 => if !isF c then none else match g' [b, c] with
                  | some (.bl k) => some (.ok (.bl k), δ3)
                  | _ => none) (by rcases fc δ2 with _ | ⟨_ | _, _⟩ <;> rfl)) (congrArg _ (kkc fun c δ3 => ?_))
              rw [iteC, ex2n]
              cases hF : isF c with
              | false => simp
              | true =>
                rw [if_neg (by simp)]
                rw [show (true = true) = True from by simp, true_and]
                cases e : g' [b, c] with
                | none => rw [has_none]; exact ex2n
                | some d =>
                  rw [has_some]
                  cases d with
                  | bl k => show _ = has (some k) _; rw [has_some]; exact ex2
                  | _ => show _ = has none _; rw [has_none]; exact ex2n
          | _ => show _ = has none _; rw [has_none]; exact ex2n)
theorem hasA {α β : Type} {o : Option α} {δ : DS} {g : α → Option (β × DS)} {Q : β → DS → Prop} : (∃ r δ2, (match o with | none => none | some a => g a) = some (r, δ2) ∧ Q r δ2) = has o fun a => ∃ r δ2, g a = some (r, δ2) ∧ Q r δ2 := by
  cases o with
  | none => rw [has_none]; exact ex2n
  | some a => rw [has_some]
theorem e_src {rt : Option Nat} {vw : Bool} {f : DS → Option ER} : GE (evSrc rt vw f) δ QI = GE f δ (kk (fun d δ' => has (itemsOf d) fun xs => if (vw && owned d) = true then has rt fun i => QI (.ok (.lent i d xs)) (st δ' i (some (lend d))) else QI (.ok (.all xs)) δ') QI) := by
  refine Eq.trans (bindG (f := f) (h := fun d δ' => match itemsOf d with
    | none => none
    | some xs => if vw && owned d then match rt with
        | none => none
        | some i => some (.ok (.lent i d xs), δ'.set i (some (lend d)))
      else some (.ok (.all xs), δ')) (by unfold evSrc; rcases f δ with _ | ⟨_ | _, _⟩ <;> rfl)) (congrArg _ (kkc fun d δ' => ?_))
  cases itemsOf d with
  | none => rw [has_none]; exact ex2n
  | some xs =>
    rw [has_some]
    cases vw && owned d with
    | false => exact ex2
    | true =>
      cases rt with
      | none => rw [has_none]; exact ex2n
      | some i => rw [has_some, ← st_eq]; exact ex2
theorem e_rng {g : List D → Option (List D)} {f : DS → Option EA} : GE (evRng g f) δ QI = GE f δ (kk (fun ds δ' => has (g ds) fun xs => QI (.ok (.all xs)) δ') QI) :=
  Eq.trans (bindG (h := fun ds δ' => match g ds with | none => none | some xs => some (.ok (.all xs), δ')) (by unfold evRng; rcases f δ with _ | ⟨_ | _, _⟩ <;> rfl)) (congrArg _ (kkc fun ds δ' => by generalize g ds = o; cases o with | none => rw [has_none]; exact ex2n | some a => rw [has_some]; exact ex2))
theorem e_lc {fs : DS → Option EI} {tg : D → DS → Option DS} {t : DS → Option EB} {f : DS → Option ER} {vs : List Nat} : GE (evLc fs tg t f vs) δ Q = GE fs δ (kk (fun s δ' => has (evCmp tg t f vs (srItems s) [] (wipeD vs δ')) fun r => Q (.ok (.lst .o r.1)) (srBack s (backD vs δ' r.2))) Q) :=
  Eq.trans (bindG (h := fun s δ' => match evCmp tg t f vs (srItems s) [] (wipeD vs δ') with | none => none | some (acc, δ2) => some (.ok (.lst .o acc), srBack s (backD vs δ' δ2))) (by unfold evLc; rcases fs δ with _ | ⟨_ | _, _⟩ <;> rfl)) (congrArg _ (kkc fun s δ' => by
    cases e : evCmp tg t f vs (srItems s) [] (wipeD vs δ') with
    | none => rw [has_none]; exact ex2n
    | some r => rw [has_some]; exact ex2))
/-! statements -/
def kQ (k : DS → Prop) (Q : Out → DS → Prop) : Out → DS → Prop
  | .nx, δ => k δ
  | o, δ => Q o δ
theorem kQ_nx {k : DS → Prop} {Q : Out → DS → Prop} : kQ k Q .nx δ = k δ := rfl
theorem kQ_rt {k : DS → Prop} {Q : Out → DS → Prop} {d : D} : kQ k Q (.rt d) δ = Q (.rt d) δ := rfl
theorem kQ_ex {k : DS → Prop} {Q : Out → DS → Prop} {d : Xc} : kQ k Q (.ex d) δ = Q (.ex d) δ := rfl
theorem kQ_bk {k : DS → Prop} {Q : Out → DS → Prop} : kQ k Q .bk δ = Q .bk δ := rfl
theorem kQ_ct {k : DS → Prop} {Q : Out → DS → Prop} : kQ k Q .ct δ = Q .ct δ := rfl
theorem g_nx : Go evNx δ QS = QS .nx δ := ex2
theorem g_retN : Go evRetN δ QS = QS (.rt .non) δ := ex2
theorem g_brk : Go evBrk δ QS = QS .bk δ := ex2
theorem g_cnt : Go evCnt δ QS = QS .ct δ := ex2
theorem g_seq {f g : DS → Option ES} : Go (evSeq f g) δ QS = Go f δ (kQ (fun δ' => Go g δ' QS) QS) := by
  unfold Go evSeq
  cases e : f δ with
  | none => simp
  | some w =>
    obtain ⟨o, δ1⟩ := w
    cases o with
    | nx => exact propext ⟨fun h => ⟨_, _, rfl, h⟩, fun ⟨_, _, e, h⟩ => (by cases e; exact h)⟩
    | bk => exact propext ⟨fun ⟨_, _, e, h⟩ => (by cases e; exact ⟨_, _, rfl, h⟩), fun ⟨_, _, e, h⟩ => (by cases e; exact ⟨_, _, rfl, h⟩)⟩
    | ct => exact propext ⟨fun ⟨_, _, e, h⟩ => (by cases e; exact ⟨_, _, rfl, h⟩), fun ⟨_, _, e, h⟩ => (by cases e; exact ⟨_, _, rfl, h⟩)⟩
    | rt d => exact propext ⟨fun ⟨_, _, e, h⟩ => (by cases e; exact ⟨_, _, rfl, h⟩), fun ⟨_, _, e, h⟩ => (by cases e; exact ⟨_, _, rfl, h⟩)⟩
    | ex x => exact propext ⟨fun ⟨_, _, e, h⟩ => (by cases e; exact ⟨_, _, rfl, h⟩), fun ⟨_, _, e, h⟩ => (by cases e; exact ⟨_, _, rfl, h⟩)⟩
theorem g_drop {f : DS → Option ER} : Go (evDrop f) δ QS = GE f δ (kS (fun _ δ' => QS .nx δ') QS) := Eq.trans (bindS (h := fun _ δ' => some (.nx, δ')) (by unfold evDrop; rcases f δ with _ | ⟨_ | _, _⟩ <;> rfl)) (congrArg _ (kSc fun _ _ => ex2))
theorem g_ret {f : DS → Option ER} : Go (evRet f) δ QS = GE f δ (kS (fun d δ' => QS (.rt d) δ') QS) := Eq.trans (bindS (h := fun d δ' => some (.rt d, δ')) (by unfold evRet; rcases f δ with _ | ⟨_ | _, _⟩ <;> rfl)) (congrArg _ (kSc fun _ _ => ex2))
theorem g_asg {i : Nat} {f : DS → Option ER} : Go (evAsg i f) δ QS = GE f δ (kS (fun d δ' => QS .nx (st δ' i (some d))) QS) := Eq.trans (bindS (h := fun d δ' => some (.nx, δ'.set i (some d))) (by unfold evAsg; rcases f δ with _ | ⟨_ | _, _⟩ <;> rfl)) (congrArg _ (kSc fun _ _ => by rw [st_eq]; exact ex2))
theorem g_if {t : DS → Option EB} {f g : DS → Option ES} : Go (evIfS t f g) δ QS = GE t δ (kS (fun b δ' => if b = true then Go f δ' QS else Go g δ' QS) QS) := Eq.trans (bindS (h := fun b δ' => if b = true then f δ' else g δ') (by unfold evIfS; rcases t δ with _ | ⟨_ | _, _⟩ <;> rfl)) (congrArg _ (kSc fun _ _ => by rw [iteC]; rfl))
theorem g_for {fs : DS → Option EI} {tg : D → DS → Option DS} {body : DS → Option ES} : Go (evFor fs tg body) δ QS = GE fs δ (kS (fun s δ' => has (evForL tg body (srItems s) δ') fun r => QS r.1 (srBack s r.2)) QS) :=
  Eq.trans (bindS (h := fun s δ' => match evForL tg body (srItems s) δ' with | none => none | some (o, δ2) => some (o, srBack s δ2)) (by unfold evFor; rcases fs δ with _ | ⟨_ | _, _⟩ <;> rfl)) (congrArg _ (kSc fun s δ' => by
    cases e : evForL tg body (srItems s) δ' with
    | none => rw [has_none]; exact ex2n
    | some r => rw [has_some]; exact ex2))
def isLst : D → Bool
  | .lst _ _ => true
  | _ => false
def lstO : D → Option (List D)
  | .lst .o xs => some xs
  | _ => none
theorem g_app {i : Nat} {f : DS → Option ER} : Go (evApp i f) δ QS = sl δ i fun d0 => isLst d0 = true ∧ GE f δ (kS (fun d δ' => sl δ' i fun d1 => has (lstO d1) fun xs => xs.length < 1000000 ∧ QS .nx (st δ' i (some (.lst .o (xs ++ [cap d]))))) QS) := by
  have inner : ∀ (d : D) (δ' : DS), (∃ r δ2, (match δ'[i]? with
      | some (some (.lst .o xs)) => if xs.length < 1000000 then some (Out.nx, δ'.set i (some (.lst .o (xs ++ [cap d])))) else none
      | _ => none) = some (r, δ2) ∧ QS r δ2) = sl δ' i fun d1 => has (lstO d1) fun xs => xs.length < 1000000 ∧ QS .nx (st δ' i (some (.lst .o (xs ++ [cap d])))) := fun d δ' => by
    unfold sl
    cases e : δ'[i]? with
    | none => exact Eq.trans ex2n (propext ⟨False.elim, fun ⟨_, e, _⟩ => (by cases e)⟩)
    | some o =>
      cases o with
      | none => exact Eq.trans ex2n (propext ⟨False.elim, fun ⟨_, e, _⟩ => (by cases e)⟩)
      | some d1 =>
        refine Eq.trans ?_ (show has (lstO d1) _ = _ from propext ⟨fun h => ⟨d1, rfl, h⟩, fun ⟨_, e, h⟩ => (by cases e; exact h)⟩)
        cases d1 with
        | lst m xs =>
          cases m with
          | o => rw [show lstO (.lst .o xs) = some xs from rfl, has_some, ← st_eq]; exact Eq.trans iteN (congrArg _ ex2)
          | _ => rw [show lstO _ = none from rfl, has_none]; exact ex2n
        | _ => rw [show lstO _ = none from rfl, has_none]; exact ex2n
  have mid : ∀ g : DS → Option ES, g = (fun δ => match f δ with
      | none => none
      | some (.ex x, δ') => some (.ex x, δ')
      | some (.ok d, δ') => match δ'[i]? with
        | some (some (.lst .o xs)) => if xs.length < 1000000 then some (.nx, δ'.set i (some (.lst .o (xs ++ [cap d])))) else none
        | _ => none) → Go g δ QS = GE f δ (kS (fun d δ' => sl δ' i fun d1 => has (lstO d1) fun xs => xs.length < 1000000 ∧ QS .nx (st δ' i (some (.lst .o (xs ++ [cap d]))))) QS) := fun g eg => by
    subst eg
    exact Eq.trans (bindS (f := f) (h := fun d δ' => match δ'[i]? with
        | some (some (.lst .o xs)) => if xs.length < 1000000 then some (.nx, δ'.set i (some (.lst .o (xs ++ [cap d])))) else none
        | _ => none) (by rcases f δ with _ | ⟨_ | _, _⟩ <;> rfl)) (congrArg _ (kSc fun d δ' => inner d δ'))
  rw [← mid _ rfl]
  unfold Go evApp sl
  cases e : δ[i]? with
  | none => exact Eq.trans ex2n (propext ⟨False.elim, fun ⟨_, e, _⟩ => (by cases e)⟩)
  | some o =>
    cases o with
    | none => exact Eq.trans ex2n (propext ⟨False.elim, fun ⟨_, e, _⟩ => (by cases e)⟩)
    | some d1 =>
      cases d1 with
      | lst m xs => exact propext ⟨fun h => ⟨_, rfl, rfl, h⟩, fun ⟨_, e, _, h⟩ => h⟩
      | _ => exact Eq.trans ex2n (propext ⟨False.elim, fun ⟨_, e, q, _⟩ => (by cases e; exact Bool.noConfusion q)⟩)
def setK (i : Nat) (d kd : D) (δ2 : DS) : Option ES := match kd, δ2[i]? with
  | .int k, some (some (.lst .o xs)) => match ixN xs.length k with
    | some j => some (.nx, δ2.set i (some (.lst .o (xs.set j (cap d)))))
    | none => none
  | _, _ => none
theorem g_set {i : Nat} {f fk : DS → Option ER} : Go (evSet i f fk) δ QS = GE f δ (kS (fun d δ' => sl δ' i fun _ => GE fk δ' (kS (fun kd δ2 => has (intD kd) fun k => sl δ2 i fun d1 => has (lstO d1) fun xs => has (ixN xs.length k) fun j => QS .nx (st δ2 i (some (.lst .o (xs.set j (cap d)))))) QS)) QS) := by
  have inner : ∀ (d kd : D) (δ2 : DS), (∃ r δ3, setK i d kd δ2 = some (r, δ3) ∧ QS r δ3) = has (intD kd) fun k => sl δ2 i fun d1 => has (lstO d1) fun xs => has (ixN xs.length k) fun j => QS .nx (st δ2 i (some (.lst .o (xs.set j (cap d))))) := fun d kd δ2 => by
    unfold setK
    cases kd with
    | int k =>
      rw [show intD (.int k) = some k from rfl, has_some]
      unfold sl
      cases e : δ2[i]? with
      | none => exact Eq.trans ex2n (propext ⟨False.elim, fun ⟨_, e, _⟩ => (by cases e)⟩)
      | some o =>
        cases o with
        | none => exact Eq.trans ex2n (propext ⟨False.elim, fun ⟨_, e, _⟩ => (by cases e)⟩)
        | some d1 =>
          refine Eq.trans ?_ (show has (lstO d1) _ = _ from propext ⟨fun h => ⟨d1, rfl, h⟩, fun ⟨_, e, h⟩ => (by cases e; exact h)⟩)
          cases d1 with
          | lst m xs =>
            cases m with
            | o =>
              rw [show lstO (.lst .o xs) = some xs from rfl, has_some]
              show (∃ r δ3, (match ixN xs.length k with | some j => some (Out.nx, δ2.set i (some (.lst .o (xs.set j (cap d))))) | none => none) = some (r, δ3) ∧ QS r δ3) = _
              cases ixN xs.length k with
              | none => rw [has_none]; exact ex2n
              | some j => rw [has_some, ← st_eq]; exact ex2
            | _ => rw [show lstO _ = none from rfl, has_none]; exact ex2n
          | _ => rw [show lstO _ = none from rfl, has_none]; exact ex2n
    | _ => rw [show intD _ = none from rfl, has_none]; exact ex2n
  refine Eq.trans (bindS (f := f) (h := fun d δ' => match δ'[i]? with
    | some (some _) => match fk δ' with
      | none => none
      | some (.ex x, δ2) => some (.ex x, δ2)
      | some (.ok kd, δ2) => setK i d kd δ2
    | _ => none) (by
      unfold evSet
      rcases f δ with _ | ⟨d | _, δ'⟩
      · rfl
      · dsimp only
        generalize δ'[i]? = o
        rcases o with _ | _ | _
        · rfl
        · rfl
        · dsimp only
          generalize fk δ' = q
          rcases q with _ | ⟨kd | _, δ2⟩ <;> rfl
      · rfl)) (congrArg _ (kSc fun d δ' => ?_))
  have mid : ∀ g : DS → Option ES, g = (fun δ' => match fk δ' with
      | none => none
      | some (.ex x, δ2) => some (.ex x, δ2)
      | some (.ok kd, δ2) => setK i d kd δ2) → Go g δ' QS = GE fk δ' (kS (fun kd δ2 => has (intD kd) fun k => sl δ2 i fun d1 => has (lstO d1) fun xs => has (ixN xs.length k) fun j => QS .nx (st δ2 i (some (.lst .o (xs.set j (cap d)))))) QS) := fun g eg => by
    subst eg
    exact Eq.trans (bindS (f := fk) (h := fun kd δ2 => setK i d kd δ2) (by rcases fk δ' with _ | ⟨_ | _, _⟩ <;> rfl)) (congrArg _ (kSc fun kd δ2 => inner d kd δ2))
  rw [← mid _ rfl]
  unfold Go sl
  cases e : δ'[i]? with
  | none => exact Eq.trans ex2n (propext ⟨False.elim, fun ⟨_, e, _⟩ => (by cases e)⟩)
  | some o =>
    cases o with
    | none => exact Eq.trans ex2n (propext ⟨False.elim, fun ⟨_, e, _⟩ => (by cases e)⟩)
    | some d1 => exact propext ⟨fun h => ⟨_, rfl, h⟩, fun ⟨_, e, h⟩ => h⟩
/-! functions -/
theorem fn_go {n np : Nat} {m : Bool} {ev : DS → Option ES} {ds : List D} {r : ER} (hl : ds.length = np) (h : Go ev (ds.map some ++ List.replicate (n - np) none) fun o δ => (match o with | .rt d => some (.ok d, outD np m δ) | .nx => some (.ok .non, outD np m δ) | .ex x => some (.ex x, outD np m δ) | _ => none) = some r) : fnOf n np m ev ds = some r := by
  obtain ⟨o, δ', e, q⟩ := h
  unfold fnOf
  rw [if_pos hl, e]
  cases o <;> exact q
end
end PD
/-! P, part 19: what the operations give, told for the simplifier. -/
namespace PD
open PySem L2
section
variable {i j : Int} {a b : Bool} {m : Fl} {xs ys : List D} {d x : D} {z : Str}
theorem v_add : gAdd [.int i, .int j] = some (.int (i + j)) := rfl
theorem v_sub : gSub [.int i, .int j] = some (.int (i - j)) := rfl
theorem v_mod (h : 0 < j) : gMod [.int i, .int j] = some (.int (i % j)) := if_pos h
theorem v_div (h : 0 < j ∧ j < 1073741824) : gDiv [.int i, .int j] = some (.int (i / j)) := if_pos h
theorem v_mul (h : mulOk i j = true) : gMul [.int i, .int j] = some (.int (i * j)) := if_pos h
theorem v_neg : gNeg [.int i] = some (.int (-i)) := rfl
theorem v_lt : gLt [.int i, .int j] = some (.bl (decide (i < j))) := rfl
theorem v_le : gLe [.int i, .int j] = some (.bl (decide (i ≤ j))) := rfl
theorem v_gt : gGt [.int i, .int j] = some (.bl (decide (j < i))) := rfl
theorem v_ge : gGe [.int i, .int j] = some (.bl (decide (j ≤ i))) := rfl
theorem v_eqi : gEq [.int i, .int j] = some (.bl (decide (i = j))) := by
  show some (D.bl (eqD (.int i) (.int j))) = _
  have : eqD (.int i) (.int j) = decide (i = j) := by
    unfold eqD toP
    rw [Bool.eq_iff_iff]
    simp [PyData.eqv]
  rw [this]
theorem v_nei : gNe [.int i, .int j] = some (.bl (!decide (i = j))) := by
  have : eqD (.int i) (.int j) = decide (i = j) := by
    unfold eqD toP
    rw [Bool.eq_iff_iff]
    simp [PyData.eqv]
  show some (D.bl (!eqD (.int i) (.int j))) = _
  rw [this]
theorem v_is : gIs [d, .non] = some (.bl (isNon d)) := rfl
theorem v_isNot : gIsNot [d, .non] = some (.bl (!isNon d)) := rfl
theorem v_len : gLen [.lst m xs] = some (.int xs.length) := rfl
theorem v_lenT : gLen [.tup xs] = some (.int xs.length) := rfl
theorem v_abs : gAbs [.int i] = some (.int (if i < 0 then -i else i)) := rfl
theorem v_int : gIntOf [.int i] = some (.int i) := rfl
theorem v_item : gItem [.lst m xs, .int i] = (atI xs i).bind fun d => if isF d then some d else none := rfl
theorem v_itemT : gItem [.tup xs, .int i] = atI xs i := rfl
theorem v_list : gList [.lst m xs] = if shal m then some (.lst .o xs) else none := rfl
theorem v_max : gMax2 [.int i, .int j] = some (.int (max i j)) := by
  show some (D.int (if j > i then j else i)) = _
  have : (if j > i then j else i) = max i j := by split <;> omega
  rw [this]
theorem v_min : gMin2 [.int i, .int j] = some (.int (min i j)) := by
  show some (D.int (if j < i then j else i)) = _
  have : (if j < i then j else i) = min i j := by split <;> omega
  rw [this]
theorem mulL (h : (decide (-(2 ^ 64) < i) && decide (i < 2 ^ 64)) = true) : mulOk i j = true := by unfold mulOk; rw [h]; rfl
theorem at_0 {x : D} : L2.atI (x :: xs) 0 = some x := by
  unfold L2.atI L2.ixN
  rw [if_pos (by omega), if_pos (by simp <;> omega)]; rfl
theorem at_1 {x y : D} : L2.atI (x :: y :: xs) 1 = some y := by
  unfold L2.atI L2.ixN
  rw [if_pos (by omega), if_pos (by simp; omega)]; rfl
theorem at_2 {x y w : D} : L2.atI (x :: y :: w :: xs) 2 = some w := by
  unfold L2.atI L2.ixN
  rw [if_pos (by omega), if_pos (by simp; omega)]; rfl
theorem at_nat {k : Nat} (h : k < xs.length) : L2.atI xs (k : Int) = some xs[k] := by
  unfold L2.atI L2.ixN
  rw [if_pos (by omega), if_pos (by omega)]
  simp [h]
theorem at_last {x : D} : L2.atI (xs ++ [x]) (-1) = some x := by
  unfold L2.atI L2.ixN
  rw [if_neg (by omega), if_pos (by simp <;> omega)]
  have : (-1 + ((xs ++ [x]).length : Int)).toNat = xs.length := by simp; omega
  simp only [Option.bind_some, this]
  simp
theorem ixN_last {n : Nat} : ixN (n + 1) (-1) = some n := by
  unfold L2.ixN
  rw [if_neg (by omega), if_pos (by omega)]
  have : (-1 + ((n + 1 : Nat) : Int)).toNat = n := by omega
  rw [this]
theorem ixN_lit {n k : Nat} (h : k < n) : ixN n (k : Int) = some k := by
  unfold L2.ixN
  rw [if_pos (by omega), if_pos (by omega)]; rfl
theorem ix_0 {x : D} : L2.ixN (x :: xs).length 0 = some 0 := by
  unfold L2.ixN
  rw [if_pos (by omega), if_pos (by simp <;> omega)]; rfl
theorem ix_1 {x y : D} : L2.ixN (x :: y :: xs).length 1 = some 1 := by
  unfold L2.ixN
  rw [if_pos (by omega), if_pos (by simp <;> omega)]; rfl
theorem ix_2 {x y w : D} : L2.ixN (x :: y :: w :: xs).length 2 = some 2 := by
  unfold L2.ixN
  rw [if_pos (by omega), if_pos (by simp <;> omega)]; rfl
theorem cap_i : cap (.int i) = .int i := rfl
theorem cap_t : cap (.tup xs) = .tup xs := rfl
theorem noL_i : noL (.int i) = true := rfl
theorem noL_n : noL .non = true := rfl
theorem noL_b : noL (.bl a) = true := rfl
theorem noL_t : noL (.tup xs) = true := rfl
theorem ck_0 {ds : List D} : capOk [] ds = true := by unfold capOk; rfl
theorem ck_s {k : Bool} {ks : List Bool} {d : D} {ds : List D} : capOk (k :: ks) (d :: ds) = ((!k || isF d) && capOk ks ds) := rfl
theorem lk_0 : decide (([] : List D).length ≤ 1000) = true := rfl
theorem lk_1 {x : D} : decide ([x].length ≤ 1000) = true := rfl
theorem lk_2 {x y : D} : decide ([x, y].length ≤ 1000) = true := rfl
theorem lk_3 {x y w : D} : decide ([x, y, w].length ≤ 1000) = true := rfl
theorem lk_4 {x y w u : D} : decide ([x, y, w, u].length ≤ 1000) = true := rfl
theorem ln_0 : (([] : List D).length ≤ 1000) = True := eq_true (Nat.zero_le _)
theorem ln_1 {x : D} : ([x].length ≤ 1000) = True := eq_true (by simp)
theorem ln_2 {x y : D} : ([x, y].length ≤ 1000) = True := eq_true (by simp)
theorem ln_3 {x y w : D} : ([x, y, w].length ≤ 1000) = True := eq_true (by simp)
theorem ln_4 {x y w u : D} : ([x, y, w, u].length ≤ 1000) = True := eq_true (by simp)
theorem own_o : owned (.lst .o xs) = true := rfl
theorem its_o : itemsOf (.lst .o xs) = some xs := rfl
theorem its_l : itemsOf (.lst .l xs) = some xs := rfl
theorem its_f : itemsOf (.lst .f xs) = some xs := rfl
theorem own_l : owned (.lst .l xs) = false := rfl
theorem own_f : owned (.lst .f xs) = false := rfl
theorem lend_o : lend (.lst .o xs) = .lst .l xs := rfl
theorem lend_i : lend (.int i) = .int i := rfl
theorem lend_b : lend (.bl a) = .bl a := rfl
theorem lend_n : lend .non = .non := rfl
theorem lend_s : lend (.str z) = .str z := rfl
theorem lend_t : lend (.tup xs) = .tup xs := rfl
theorem cap_o : cap (.lst .o xs) = .lst .f xs := rfl
theorem cap_k : cap (.lst .k xs) = .lst .k xs := rfl
theorem cap_f : cap (.lst .f xs) = .lst .f xs := rfl
theorem lend_l : lend (.lst .l xs) = .lst .l xs := rfl
theorem lend_f : lend (.lst .f xs) = .lst .f xs := rfl
theorem sh_o : shal .o = true := rfl
theorem sh_l : shal .l = true := rfl
theorem sh_f : shal .f = true := rfl
theorem sh_k : shal .k = true := rfl
theorem bind_S {α β : Type} {a : α} {f : α → Option β} : (some a).bind f = f a := rfl
theorem v_repr : gRepr [.bl a] = some (.str (Str.ofString (if a then "True" else "False"))) := rfl
theorem blD_bl : blD (.bl a) = some a := rfl
theorem truD_bl : truD (.bl a) = some a := rfl
theorem truD_lst : truD (.lst m xs) = some (!xs.isEmpty) := rfl
theorem itemsOf_lst (h : shal m = true) : itemsOf (.lst m xs) = some xs := if_pos h
theorem isF_int : isF (.int i) = true := rfl
theorem isF_bl : isF (.bl a) = true := rfl
theorem isF_non : isF .non = true := rfl
theorem isF_tup : isF (.tup xs) = true := rfl
theorem isF_str : isF (.str z) = true := rfl
theorem isF_lf : isF (.lst .f xs) = true := rfl
theorem isF_lk : isF (.lst .k xs) = true := rfl
theorem isF_lo : isF (.lst .o xs) = false := rfl
theorem isF_ll : isF (.lst .l xs) = false := rfl
theorem cap_F (h : isF d = true) : cap d = d := if_pos h
theorem lend_F {d : D} (h : isF d = true) : lend d = d := by
  cases d with
  | lst m xs => cases m <;> first | rfl | (exact absurd (show false = true from h) Bool.false_ne_true)
  | dic m xs => cases m <;> first | rfl | (exact absurd (show false = true from h) Bool.false_ne_true)
  | dit m xs => cases m <;> first | rfl | (exact absurd (show false = true from h) Bool.false_ne_true)
  | ins m c xs => cases m <;> first | rfl | (exact absurd (show false = true from h) Bool.false_ne_true)
  | _ => rfl
end
/-! loops -/
def kL (k : DS → Prop) (K : ES → Prop) : Out → DS → Prop
  | .nx, δ => k δ
  | .ct, δ => k δ
  | .bk, δ => K (.nx, δ)
  | .rt v, δ => K (.rt v, δ)
  | .ex x, δ => K (.ex x, δ)
section
variable {k : DS → Prop} {K : ES → Prop} {δ : DS} {d : D} {ds : List D} {is : List Nat} {n : Nat}
theorem kL_nx : kL k K .nx δ = k δ := rfl
theorem kL_ct : kL k K .ct δ = k δ := rfl
theorem kL_bk : kL k K .bk δ = K (.nx, δ) := rfl
theorem kL_rt : kL k K (.rt d) δ = K (.rt d, δ) := rfl
theorem forL_0 {tg : D → DS → Option DS} {body : DS → Option ES} : has (evForL tg body [] δ) K = K (.nx, δ) := has_some
theorem forL_s {tg : D → DS → Option DS} {body : DS → Option ES} {r : List D} : has (evForL tg body (d :: r) δ) K = has (tg d δ) fun δ1 => Go body δ1 (kL (fun δ2 => has (evForL tg body r δ2) K) K) := by
  rw [evForL]
  cases tg d δ with
  | none => rw [has_none]; exact has_none.symm
  | some δ1 =>
    rw [has_some]
    unfold Go
    show has (match body δ1 with | none => none | some (.nx, δ2) => evForL tg body r δ2 | some (.ct, δ2) => evForL tg body r δ2 | some (.bk, δ2) => some (.nx, δ2) | some (.rt v, δ2) => some (.rt v, δ2) | some (.ex x, δ2) => some (.ex x, δ2)) K = _
    cases body δ1 with
    | none => exact Eq.trans has_none (propext ⟨False.elim, fun ⟨_, _, e, _⟩ => (by cases e)⟩)
    | some w =>
      obtain ⟨o, δ2⟩ := w
      refine Eq.trans ?_ (show kL (fun δ2 => has (evForL tg body r δ2) K) K o δ2 = _ from propext ⟨fun h => ⟨_, _, rfl, h⟩, fun ⟨_, _, e, h⟩ => (by cases e; exact h)⟩)
      cases o with
      | nx => rfl
      | ct => rfl
      | bk => exact has_some
      | rt v => exact has_some
      | ex x => exact has_some
theorem tg_n {i : Nat} : tgName i d δ = some (st δ i (some d)) := by unfold tgName; rw [st_eq]
theorem tg_t {xs : List D} : tgTup is (.tup xs) δ = tgNames is xs δ := rfl
theorem tg_0 : tgNames [] [] δ = some δ := rfl
theorem tg_s {i : Nat} : tgNames (i :: is) (d :: ds) δ = tgNames is ds (st δ i (some d)) := by rw [tgNames, st_eq]
theorem wp_0 : wipeD [] δ = δ := rfl
theorem wp_s {v : Nat} {vs : List Nat} : wipeD (v :: vs) δ = st (wipeD vs δ) v none := by rw [wipeD, st_eq]
/-- what slot i holds, or nothing -/
def rd : DS → Nat → Option D
  | [], _ => none
  | o :: _, 0 => o
  | _ :: δ, i + 1 => rd δ i
theorem rd_eq : ∀ (δ : DS) (i : Nat), (δ[i]?).getD none = rd δ i
  | [], _ => rfl
  | o :: _, 0 => rfl
  | _ :: δ, i + 1 => by rw [List.getElem?_cons_succ]; exact rd_eq δ i
theorem rd_0 {o : Option D} : rd (o :: δ) 0 = o := rfl
theorem rd_s {o : Option D} {i : Nat} : rd (o :: δ) (i + 1) = rd δ i := rfl
theorem bk_0 {δ0 : DS} : backD [] δ0 δ = δ := rfl
theorem bk_s {δ0 : DS} {v : Nat} {vs : List Nat} : backD (v :: vs) δ0 δ = st (backD vs δ0 δ) v (rd δ0 v) := by rw [backD, st_eq, rd_eq]
theorem hd_0 {o : Option D} : hd0 (o :: δ) = o := rfl
theorem sb_a {xs : List D} : srBack (.all xs) δ = δ := rfl
theorem sb_l {xs : List D} {i : Nat} : srBack (.lent i d xs) δ = st δ i (some d) := by
  show δ.set i (some d) = _
  rw [st_eq]
theorem si_a {xs : List D} : srItems (.all xs) = xs := rfl
theorem si_l {xs : List D} {i : Nat} : srItems (.lent i d xs) = xs := rfl
theorem out_t : outD n true δ = hd0 δ :: List.replicate (n - 1) none := rfl
theorem out_f : outD n false δ = List.replicate n none := rfl
/-- a comprehension that changes nothing -/
theorem cmp_pure {tg : D → DS → Option DS} {t : DS → Option EB} {f : DS → Option ER} {vs : List Nat} {p : D → Bool} {h : D → D} : ∀ (xs acc : List D), acc.length + xs.length ≤ 1000000 →
    (∀ d ∈ xs, has (tg d δ) fun δ1 => GE t δ1 fun r δ2 => r = .ok (p d) ∧ if p d = true then (GE f δ2 fun r δ3 => r = .ok (h d) ∧ wipeD vs δ3 = δ) else wipeD vs δ2 = δ) →
    evCmp tg t f vs xs acc δ = some (acc ++ (xs.filter p).map fun d => cap (h d), δ)
  | [], acc, _, _ => by simp [evCmp]
  | d :: r, acc, hl, hh => by
    obtain ⟨δ1, e1, b, δ2, e2, rfl, h2⟩ := hh d List.mem_cons_self
    have hr := fun acc' (hl' : acc'.length + r.length ≤ 1000000) => cmp_pure r acc' hl' fun d hd => hh d (List.mem_cons_of_mem _ hd)
    simp only [List.length_cons] at hl
    rw [evCmp, e1]
    simp only [e2]
    by_cases hp : p d = true
    · rw [if_pos hp] at h2
      obtain ⟨y, δ3, e3, rfl, e4⟩ := h2
      rw [if_pos hp, e3]
      simp only
      rw [if_pos (by omega), e4, hr _ (by simp; omega), List.filter_cons_of_pos hp]
      simp
    · rw [if_neg hp] at h2
      rw [if_neg hp, h2, hr _ (by omega), List.filter_cons_of_neg hp]
end
end PD
/-! P, part 20: lists of a kind: equal, sorted, one in another. -/
namespace PD
open PySem L2
theorem eqvAll_of {α : Type} [DecidableEq α] {f : α → D} (h : ∀ a b, eqD (f a) (f b) = decide (a = b)) : ∀ xs ys : List α, PyData.eqvAll (toPL (xs.map f)) (toPL (ys.map f)) = decide (xs = ys)
  | [], [] => by simp [toPL, PyData.eqvAll]
  | [], y :: ys => by simp [toPL, PyData.eqvAll]
  | x :: xs, [] => by simp [toPL, PyData.eqvAll]
  | x :: xs, y :: ys => by
    have e : PyData.eqv (toP (f x)) (toP (f y)) = decide (x = y) := h x y
    rw [List.map_cons, List.map_cons, toPL, toPL, PyData.eqvAll, e, eqvAll_of h xs ys]
    by_cases h1 : x = y <;> by_cases h2 : xs = ys <;> simp [h1, h2]
theorem dpL_of {α : Type} {f : α → D} {n : Nat} (h : ∀ a, dp n (f a) = true) (xs : List α) : dpL n (xs.map f) = true := by
  rw [dpL_all, List.all_eq_true]
  intro d hd
  obtain ⟨a, _, rfl⟩ := List.mem_map.mp hd
  exact h a
section
variable {α : Type} [DecidableEq α] {f : α → D} {m n : Fl} {xs ys : List α} {a : α}
theorem eqD_l (h : ∀ a b, eqD (f a) (f b) = decide (a = b)) : eqD (.lst m (xs.map f)) (.lst n (ys.map f)) = decide (xs = ys) := by
  unfold eqD
  rw [toP, toP, PyData.eqv, eqvAll_of h]
theorem eqD_t (h : ∀ a b, eqD (f a) (f b) = decide (a = b)) : eqD (.tup (xs.map f)) (.tup (ys.map f)) = decide (xs = ys) := by
  unfold eqD
  rw [toP, toP, PyData.eqv, eqvAll_of h]
theorem v_eqL (h : ∀ a b, eqD (f a) (f b) = decide (a = b)) (hd : ∀ a, dp 59 (f a) = true) : gEq [.lst m (xs.map f), .lst n (ys.map f)] = some (.bl (decide (xs = ys))) := by
  show (if dp 60 _ && dp 60 _ then some (D.bl (eqD _ _)) else none) = _
  rw [dp, dp, dpL_of hd, dpL_of hd, eqD_l h]; rfl
theorem v_neL (h : ∀ a b, eqD (f a) (f b) = decide (a = b)) (hd : ∀ a, dp 59 (f a) = true) : gNe [.lst m (xs.map f), .lst n (ys.map f)] = some (.bl (!decide (xs = ys))) := by
  show (if dp 60 _ && dp 60 _ then some (D.bl (!eqD _ _)) else none) = _
  rw [dp, dp, dpL_of hd, dpL_of hd, eqD_l h]; rfl
theorem v_neNil (h : ∀ a b, eqD (f a) (f b) = decide (a = b)) (hd : ∀ a, dp 59 (f a) = true) : gNe [.lst m (xs.map f), .lst n []] = some (.bl (!decide (xs = []))) := v_neL (ys := []) h hd
theorem v_in (h : ∀ a b, eqD (f a) (f b) = decide (a = b)) (hd : ∀ a, dp 60 (f a) = true) (hs : ∀ z, f a ≠ .str z) : gIn [f a, .lst m (xs.map f)] = some (.bl (decide (a ∈ xs))) := by
  have e : gIn [f a, .lst m (xs.map f)] = if dp 60 (f a) && dpL 60 (xs.map f) then some (.bl ((xs.map f).any fun y => eqD y (f a))) else none := by
    unfold gIn
    split
    · rename_i e; simp at e
    · rename_i e; simp at e; rw [e.1, e.2.2]
    · rename_i e; simp at e
    · rename_i h1 h2 h3; exact (h2 _ _ _ rfl).elim
  rw [e, hd, dpL_of hd]
  have : ((xs.map f).any fun y => eqD y (f a)) = decide (a ∈ xs) := by
    rw [Bool.eq_iff_iff]
    simp [h]
  rw [this]; rfl
theorem v_notIn (h : ∀ a b, eqD (f a) (f b) = decide (a = b)) (hd : ∀ a, dp 60 (f a) = true) (hs : ∀ z, f a ≠ .str z) : gNotIn [f a, .lst m (xs.map f)] = some (.bl (!decide (a ∈ xs))) := by
  have e : gNotIn [f a, .lst m (xs.map f)] = if dp 60 (f a) && dpL 60 (xs.map f) then some (.bl (!(xs.map f).any fun y => eqD y (f a))) else none := by
    unfold gNotIn
    split
    · rename_i e; simp at e
    · rename_i e; simp at e; rw [e.1, e.2.2]
    · rename_i e; simp at e
    · rename_i h1 h2 h3; exact (h2 _ _ _ rfl).elim
  rw [e, hd, dpL_of hd]
  have : ((xs.map f).any fun y => eqD y (f a)) = decide (a ∈ xs) := by
    rw [Bool.eq_iff_iff]
    simp [h]
  rw [this]; rfl
/-- sorted: the key's order -/
theorem v_sorted {le : α → α → Bool} (hm : shal m = true) (hl : xs.length ≤ 1000000) (hle : ∀ a b, leD (f a) (f b) = le a b) (hd : ∀ a, dp 60 (f a) = true) (ha : ∀ a b, W.alike (toP (f a)) (toP (f b)) = true) (ht : (∀ a, tup1 (toP (f a)) = true) ∨ ∀ a, noTup (toP (f a)) = true) :
    gSorted [.lst m (xs.map f)] = some (.lst .o ((xs.mergeSort le).map f)) := by
  have e : sortOk (xs.map f) = true := by
    unfold sortOk
    rw [dpL_of hd]
    have h1 : ((xs.map f).all fun a => (xs.map f).all fun b => W.alike (toP a) (toP b)) = true := by
      simp [ha]
    have h2 : (((xs.map f).all fun a => tup1 (toP a)) || ((xs.map f).all fun a => noTup (toP a))) = true := by
      rcases ht with ht | ht
      · have : ((xs.map f).all fun a => tup1 (toP a)) = true := by simp [ht]
        rw [this]; rfl
      · have : ((xs.map f).all fun a => noTup (toP a)) = true := by simp [ht]
        rw [this]; exact Bool.or_true _
    rw [h1, h2, List.length_map]
    simpa using hl
  show (if shal m && sortOk (xs.map f) then some (D.lst .o ((xs.map f).mergeSort leD)) else none) = _
  rw [hm, e, List.map_mergeSort (r := le) (s := leD) (f := f) fun a _ b _ => (hle a b).symm]; rfl
end
theorem eqD_i (a b : Int) : eqD (.int a) (.int b) = decide (a = b) := by
  unfold eqD toP
  rw [Bool.eq_iff_iff]
  simp [PyData.eqv]
theorem eqD_p (a b : Int × Int) : eqD (.tup [.int a.1, .int a.2]) (.tup [.int b.1, .int b.2]) = decide (a = b) := by
  unfold eqD
  rw [Bool.eq_iff_iff]
  simp [toP, toPL, PyData.eqv, PyData.eqvAll, Prod.ext_iff]
theorem leD_i (a b : Int) : leD (.int a) (.int b) = decide (a ≤ b) := by
  unfold leD W.dataLe W.sortLe
  show (!PyProof.Rows.lexLt PyProof.Rows.itemOrd [.inl b] [.inl a]) = _
  rw [Bool.eq_iff_iff]
  simp [PyProof.Rows.lexLt, PyProof.Rows.itemLt]
theorem leD_p (a b : Int × Int) : leD (.tup [.int a.1, .int a.2]) (.tup [.int b.1, .int b.2]) = decide (a.1 < b.1 ∨ (a.1 = b.1 ∧ a.2 ≤ b.2)) := by
  unfold leD W.dataLe W.sortLe
  show (!PyProof.Rows.lexLt PyProof.Rows.itemOrd [.inl 1, .inl b.1, .inl 1, .inl b.2, .inl 0] [.inl 1, .inl a.1, .inl 1, .inl a.2, .inl 0]) = _
  rw [Bool.eq_iff_iff]
  simp [PyProof.Rows.lexLt, PyProof.Rows.itemLt]
  omega
theorem ix_last {xs : List D} {x : D} : L2.ixN (xs ++ [x]).length (-1) = some xs.length := by
  rw [List.length_append]; exact ixN_last
theorem set_last {xs : List D} {x y : D} : (xs ++ [x]).set xs.length y = xs ++ [y] := by simp
theorem emp_last {xs : List D} {x : D} : (xs ++ [x]).isEmpty = false := by cases xs <;> rfl
/-- a comprehension that changes nothing, over a list of a kind -/
theorem has_cmp {α : Type} {f : α → D} {tg : D → DS → Option DS} {t : DS → Option EB} {fe : DS → Option ER} {vs : List Nat} {δ : DS} (p : α → Bool) (h : α → D) {K : List D × DS → Prop} (xs : List α) {acc : List D} (hl : acc.length + xs.length ≤ 1000000)
    (hh : ∀ a ∈ xs, has (tg (f a) δ) fun δ1 => GE t δ1 fun r δ2 => r = .ok (p a) ∧ if p a = true then (GE fe δ2 fun r δ3 => r = .ok (h a) ∧ wipeD vs δ3 = δ) else wipeD vs δ2 = δ)
    (hK : K (acc ++ (xs.filter p).map (fun a => cap (h a)), δ)) : has (evCmp tg t fe vs (xs.map f) acc δ) K := by
  have e : evCmp tg t fe vs (xs.map f) acc δ = some (acc ++ (xs.filter p).map (fun a => cap (h a)), δ) := by
    clear hK
    induction xs generalizing acc with
    | nil => simp [evCmp]
    | cons a r ih =>
      obtain ⟨δ1, e1, b, δ2, e2, rfl, h2⟩ := hh a List.mem_cons_self
      have hr := fun acc' (hl' : acc'.length + r.length ≤ 1000000) => ih (acc := acc') hl' fun d hd => hh d (List.mem_cons_of_mem _ hd)
      simp only [List.length_cons] at hl
      rw [List.map_cons, evCmp, e1]
      simp only [e2]
      by_cases hp : p a = true
      · rw [if_pos hp] at h2
        obtain ⟨y, δ3, e3, rfl, e4⟩ := h2
        rw [if_pos hp, e3]
        simp only
        rw [if_pos (by omega), e4, hr _ (by simp; omega), List.filter_cons_of_pos hp]
        simp
      · rw [if_neg hp] at h2
        rw [if_neg hp, h2, hr _ (by omega), List.filter_cons_of_neg hp]
  rw [e, has_some]; exact hK
theorem has_cmpF {α β : Type} {f : α → D} {tg : D → DS → Option DS} {t : DS → Option EB} {fe : DS → Option ER} {vs : List Nat} {δ : DS} (p : α → Bool) (g : α → β) (fb : β → D) (hc : ∀ b, cap (fb b) = fb b) {K : List D × DS → Prop} (xs : List α) (hl : xs.length ≤ 1000000)
    (hh : ∀ a ∈ xs, has (tg (f a) δ) fun δ1 => GE t δ1 fun r δ2 => r = .ok (p a) ∧ if p a = true then (GE fe δ2 fun r δ3 => r = .ok (fb (g a)) ∧ wipeD vs δ3 = δ) else wipeD vs δ2 = δ)
    (hK : K (((xs.filter p).map g).map fb, δ)) : has (evCmp tg t fe vs (xs.map f) [] δ) K := by
  refine has_cmp p (fun a => fb (g a)) xs (by simpa using hl) hh ?_
  have : (xs.filter p).map (fun a => cap (fb (g a))) = ((xs.filter p).map g).map fb := by simp [hc, Function.comp_def]
  rw [List.nil_append, this]; exact hK
theorem filt_true {α : Type} (xs : List α) : xs.filter (fun _ => true) = xs := List.filter_eq_self.mpr fun _ _ => rfl
theorem has_cmpA {α β : Type} {f : α → D} {tg : D → DS → Option DS} {t : DS → Option EB} {fe : DS → Option ER} {vs : List Nat} {δ : DS} (g : α → β) (fb : β → D) (hc : ∀ b, cap (fb b) = fb b) {K : List D × DS → Prop} (xs : List α) (hl : xs.length ≤ 1000000)
    (hh : ∀ a ∈ xs, has (tg (f a) δ) fun δ1 => GE t δ1 fun r δ2 => r = .ok true ∧ (GE fe δ2 fun r δ3 => r = .ok (fb (g a)) ∧ wipeD vs δ3 = δ))
    (hK : K ((xs.map g).map fb, δ)) : has (evCmp tg t fe vs (xs.map f) [] δ) K := by
  refine has_cmpF (fun _ => true) g fb hc xs hl (fun a ha => ?_) (by rw [filt_true]; exact hK)
  have := hh a ha
  simp only [if_true]
  exact this
/-- one statement, the rest unopened -/
theorem step {f g : DS → Option ES} {δ : DS} {QS : Out → DS → Prop} (δ' : DS) (h1 : ∀ (k : DS → Prop) (Q : Out → DS → Prop), k δ' → Go f δ (kQ k Q)) (h2 : Go g δ' QS) : Go (evSeq f g) δ QS := by
  rw [g_seq]
  exact h1 _ _ h2
theorem stepE {f g : DS → Option ES} {δ : DS} {QS : Out → DS → Prop} (P : DS → Prop) (h1 : ∀ QQ : Out → DS → Prop, (∀ δ', P δ' → QQ .nx δ') → Go f δ QQ) (h2 : ∀ δ', P δ' → Go g δ' QS) : Go (evSeq f g) δ QS := by
  rw [g_seq]
  exact h1 _ fun δ' h => h2 δ' h
end PD
/-! P, part 21: raise. -/
namespace PD
open PySem L2

/-- raise X(..), X an own class -/
def evRaise (c : Nat) (fa : DS → Option EA) : DS → Option ES := fun δ => match fa δ with
  | none => none
  | some (.ex x, δ') => some (.ex x, δ')
  | some (.ok ds, δ') => if ds.length ≤ 1000 then some (.ex ⟨c, []⟩, δ') else none
/-- an own exception class: what the head says of it -/
structure ExF (E : En) (G : GC) (x : Str) (c : Nat) : Prop where
  mg : E.mg x = some (.ref (G.cls c))
  ex : PySem.W.excIn E.K (G.cls c) He.veBase "ValueError.__new__" = true
  kp : PySem.W.keepIn E.K (.ref (G.cls c)) = true
  sb : PySem.W.subIn E.K (.ref (G.cls c)) (.type "BaseException") = some true
  ty : PySem.W.typeIn E.K (.ref (G.cls c)) = some (.type "type")
section
variable {E : En} {G : GC} {W : WX} {p : Pl} {n : Nat} {pn : List Nat}
theorem rd_raise {ks : List Bool} {qt : Bool} {c : Nat} {fa : DS → Option EA} {tr : TA} (ha : ∀ σ H Q, rdA G W ks qt fa σ H Q → tr σ H Q) : ∀ D σ H, rdS G W n pn (evRaise c fa) D σ H → tr σ H fun vs H1 => vs.length ≤ sizeLine ∧ W (.ref (G.cls c)) none σ H1 := by
  rintro D σ H ⟨hn, δ, Z, S, FS, sr, r, hr, w⟩
  unfold evRaise at hr
  refine ha σ H _ ⟨δ, Z, S, FS, sr, ?_, fun ds δ' h vs H' Z' FS' B q => ?_, fun x δ' h c dd H' Z' FS' q => ?_⟩
  · cases q : fa δ with
    | none => rw [q] at hr; cases hr
    | some w => exact ⟨w, rfl⟩
  · rw [h] at hr
    simp only at hr
    by_cases hl : ds.length ≤ 1000
    · rw [if_pos hl] at hr
      cases hr
      refine ⟨by rw [← q.ar.l1]; exact sz1000 hl, ?_⟩
      have b := q.b
      exact w.ex _ _ rfl _ none σ H' Z' FS' ⟨b.sr, b.st, ⟨rfl, .inl ⟨rfl, rfl⟩⟩, Pin.refl _ _⟩
    · rw [if_neg hl] at hr; cases hr
  · rw [h] at hr; cases hr
    exact w.ex x _ rfl c dd σ H' Z' FS' q.q
theorem s_raise {x : Str} {c : Nat} {ks : List Bool} {qt : Bool} {q cpos pos : Pos} {e : Expr} {es : List Expr} {fa : DS → Option EA} (F : ExF E G x c) (hg : glOk p x = true) (ha : JA E G p ks qt (e :: es) fa) (hh : p.hot = false := by rfl) (hs : StarNo e es := by exact fun _ => rfl) (hs2 : NoStar es := by exact fun _ _ => rfl) :
    JS E G p n pn (.Raise (some (.Call (.Name x q) (e :: es) [] cpos)) none pos) (evRaise c fa) := fun X W hA hT _ => by
  obtain ⟨g1, g2, _⟩ := at_gl hg hA
  have kE := hA.K
  have hex := F.ex; have hkp := F.kp; have hsb := F.sb; have hty := F.ty
  rw [← kE] at hex hkp hsb hty
  refine PS.mono (ps_raise (hA.calm hh) hT (pmk_ownA PySem.F.excBase_ValueError hex (by rw [hA.mg]; exact F.mg) hkp (raises_own hsb hty) g1 (ha X W hA hT) g2 (hs _) (hs2 _ _))) ?_
  exact rd_raise fun _ _ _ h => h
end
end PD
/-! P, part 22: isinstance of built-in types; parts of a tuple, a list to names. -/
namespace PD
open PySem L2

def tyOf : D → Option String
  | .non => some "NoneType"
  | .bl _ => some "bool"
  | .int _ => some "int"
  | .str _ => some "str"
  | .tup _ => some "tuple"
  | .lst _ _ => some "list"
  | .dic .o _ => some "dict"
  | .dic .oo _ => some "dict"
  | .dit _ _ => some "dict"
  | _ => none
/-- is a thing of type a one of type b -/
def isT (a b : String) : Bool := a == b || (a == "bool" && b == "int")
def tys : List String := ["NoneType", "bool", "int", "str", "tuple", "list", "dict"]
def evIsi (T : String) (f : DS → Option ER) : DS → Option ER := fun δ => match f δ with
  | none => none
  | some (.ex x, δ') => some (.ex x, δ')
  | some (.ok d, δ') => match tyOf d with
    | none => none
    | some a => some (.ok (.bl (isT a T)), δ')
def evAsgT (tg : D → DS → Option DS) (f : DS → Option ER) : DS → Option ES := fun δ => match f δ with
  | none => none
  | some (.ex x, δ') => some (.ex x, δ')
  | some (.ok d, δ') => if isF d then match tg d δ' with
    | none => none
    | some δ2 => some (.nx, δ2) else none
section
variable {E : En} {G : GC} {W : WX} {p : Pl} {n : Nat} {pn : List Nat}
theorem tyOf_mem {d : D} {a : String} (h : tyOf d = some a) : a ∈ tys := by
  cases d <;> first | (cases h; decide) | (cases h; done) | (rename_i m _; cases m <;> first | (cases h; decide) | cases h)
theorem tyX_of {Z S : AS} {H : Hp} {d : D} {v : V} {A : AS} {t : String} (r : Rep G Z S H d v A) (h : tyOf d = some t) : TyX G.K H v (.type t) := by
  have fz : ∀ {d v}, RepF G Z H d v → tyOf d = some t → TyX G.K H v (.type t) := fun {d v} r h => by
    cases r with
    | non => cases h; exact .base .non
    | bl b => cases h; exact .base (.bl b)
    | int i => cases h; exact .base (.int i)
    | str s => cases h; exact .base (.str s)
    | tup q hl he =>
      cases h
      rcases q with ⟨_, q | ⟨o, q⟩⟩ | ⟨o, its, m, q, c, _⟩
      · exact .base (.tup q)
      · exact .fTuple q
      · exact .kTuple q c
    | lsk q hl he =>
      cases h
      rcases q with ⟨_, q | ⟨o, q⟩⟩ | ⟨o, its, m, q, c, _⟩
      · exact .base (.lst q)
      · exact .base (.frz q)
      · exact .kList q c
    | lst z q hl he => cases h; exact .base (.lst q)
    | dic z q hl he => cases h
    | dit z q hl he => cases h; exact .base (.dT q)
    | ins z q hl he => cases h
  cases r with
  | fz q hA => exact fz q h
  | lo q hl he hA => cases h; exact .base (.lst q)
  | loo B q hl he hd hn ho hA => cases h; exact .base (.lst q)
  | ll s q hl he hA => cases h; exact .base (.lst q)
  | lll s q hl he hA => cases h; exact .base (.lst q)
  | dco q hl he hA => cases h; exact .base (.dK q)
  | dcoo B q hl he hd hn ho hA => cases h; exact .base (.dK q)
  | dcl s q hl he hA => cases h
  | dcll s q hl he hA => cases h
  | dto q hl he hA => cases h; exact .base (.dT q)
  | dtl s q hl he hA => cases h; exact .base (.dT q)
  | ioo B q hl he hd hn ho hA => cases h
  | ill s q hl he hA => cases h
theorem rd_isi {vw qt : Bool} {T : String} {f : DS → Option ER} {te : TE} (hT : ∀ a ∈ tys, kitB a T = some (isT a T)) (ha : ∀ σ H Q, rdE G W vw qt f σ H Q → te σ H Q) : ∀ σ H Q, rdE G W false qt (evIsi T f) σ H Q → te σ H fun x H1 => rIsi G.K [x, .ty T] H1 Q := by
  rintro σ H Q ⟨δ, Z, S, FS, sr, ⟨w, hf⟩, ok, ex⟩
  unfold evIsi at hf ok ex
  refine ha σ H _ ⟨δ, Z, S, FS, sr, ?_, fun d δ' h v H' Z' FS' A q => ?_, fun x δ' h => ?_⟩
  · cases q : f δ with
    | none => rw [q] at hf; cases hf
    | some w => exact ⟨w, rfl⟩
  · rw [h] at hf ok
    simp only at hf ok
    cases e : tyOf d with
    | none => rw [e] at hf; cases hf
    | some a =>
      rw [e] at ok
      have tx : TyX G.K H' v (.type a) := by
        have vl := q.vl
        split at vl
        · exact tyX_of vl.1 e
        · exact tyX_of vl.1 e
      exact ⟨v, .ty T, .type a, .type T, isT a T, rfl, .ty T, tx, kit_ty (hT a (tyOf_mem e)), ok _ _ rfl _ H' Z' FS' S0 (q.b.bl _)⟩
  · rw [h] at ex
    exact ex x δ' rfl
theorem j_isi {vw qt : Bool} {x y : Str} {T : String} {q q2 pos : Pos} {e : Expr} {f : DS → Option ER} (hG : G.K = E.K) (hx : x = Str.ofString "isinstance") (hg : glOk p x = true) (hm : E.mg x = none) (hgy : glOk p y = true) (hmy : E.mg y = none) (hby : bootBuiltins y = some (.type T)) (ha : JE E G p vw qt e f)
    (hT : ∀ a ∈ tys, kitB a T = some (isT a T) := by decide +kernel) (hs : StarNo e [.Name y q2] := by exact fun _ => rfl) (hs2 : NoStar [.Name y q2] := by exact fun _ _ => rfl) : JE E G p false qt (.Call (.Name x q) [e, .Name y q2] [] pos) (evIsi T f) := fun X W hA hTk => by
  obtain ⟨g1, g2, g3⟩ := at_gl hg hA
  obtain ⟨k1, k2, k3⟩ := at_gl hgy hA
  have hb : bootBuiltins x = some (.builtin "isinstance") := by rw [hx]; decide +kernel
  refine PE.mono (pe_callB call_isi g1 (by rw [hA.mg]; exact hm) hb (pa_cons (ha X W hA hTk) (pa_cons (pe_bltn (v := .ty T) k1 (by rw [hA.mg]; exact hmy) hby rfl k3 k2) pa_nil (by rfl)) (hs _)) g3 g2 (hs _) (hs2 _ _)) fun σ H Q h => ?_
  have := rd_isi (G := G) (W := W) (T := T) (vw := vw) (te := rdE G W vw qt f) hT (fun _ _ _ h => h) σ H Q h
  rw [hG, ← hA.K] at this
  exact this
/-- a, b = e -/
theorem rd_asgT {vw qt : Bool} {is : List Nat} {tg : D → DS → Option DS} {f : DS → Option ER} {te : TE} {g : TG} (htg : TgOk G n pn tg g) (ha : ∀ σ H Q, rdE G W vw qt f σ H Q → te σ H Q) : ∀ D σ H, rdS G W n pn (evAsgT tg f) D σ H → tAsg te g D σ H := by
  rintro D σ H ⟨hn, δ, Z, S, FS, sr, r, hr, w⟩
  unfold evAsgT at hr
  refine ha σ H _ ⟨δ, Z, S, FS, sr, ?_, fun d δ' h v H' Z' FS' A q => ?_, fun x δ' h c dd H' Z' FS' q => ?_⟩
  · cases q : f δ with
    | none => rw [q] at hr; cases hr
    | some w => exact ⟨w, rfl⟩
  · rw [h] at hr
    simp only at hr
    by_cases hF : isF d = true
    · rw [if_pos hF] at hr
      cases e : tg d δ' with
      | none => rw [e] at hr; cases hr
      | some δ2 =>
        rw [e] at hr
        cases hr
        obtain ⟨rf, b⟩ := q.fzn hF
        exact htg d v Z' S H' δ' σ FS' δ2 hn b.sr rf e _ fun σ' FS2 sr2 own pin => w.nx _ rfl σ' H' Z' FS2 ⟨sr2, b.st.sub own, pin⟩
    · rw [if_neg hF] at hr; cases hr
  · rw [h] at hr; cases hr
    exact w.ex x _ rfl c dd σ H' Z' FS' q.q
theorem s_asgT {vw qt : Bool} {t e : Expr} {pos : Pos} {tg : D → DS → Option DS} {f : DS → Option ER} (htg : JTg E G p n pn t tg) (ha : JE E G p vw qt e f) (h2 : ∀ env : Env, swapsWithSole [t] e pos.line env = pure false := by exact fun _ => rfl) (h3 : ∀ env : Env, swappedStores [t] e env = pure none := by exact fun _ => rfl)
    (h4 : ∀ env : Env, (assignEach [t] env).map (fun x => x.2) = [assign t env] := by exact fun _ => rfl) : JS E G p n pn (.Assign [t] e pos) (evAsgT tg f) := fun X W hA hT _ => by
  obtain ⟨g, hg1, hg2⟩ := htg
  exact PS.mono (ps_asg (ha X W hA hT) (hg2 X hA) (h2 _) (h3 _) (h4 _)) (rd_asgT (is := []) hg1 fun _ _ _ h => h)
end
end PD
/-! P, part 23: try .. except. -/
namespace PD
open PySem L2

/-- an exception meets its clauses -/
def evHd (exm : Nat → Nat → Bool) (x : Xc) : List (Nat × (DS → Option ES)) → DS → Option ES
  | [], δ => some (.ex x, δ)
  | (c, f) :: r, δ => if exm x.c c = true then (match f δ with | some (.ex _, _) => none | o => o) else evHd exm x r δ
/-- nc: the number of own exception classes -/
def evTry (nc : Nat) (exm : Nat → Nat → Bool) (hds : List (Nat × (DS → Option ES))) (body : DS → Option ES) : DS → Option ES := fun δ => match body δ with
  | some (.ex x, δ') => if x.c < nc then evHd exm x hds δ' else none
  | r => r
/-- a place in an except suite -/
def Pl.su (p : Pl) : Pl := { p with hot := true }
section
variable {E : En} {G : GC} {p : Pl} {X : Cx} {n : Nat} {pn : List Nat}
theorem At.tr (h : At E p X) (l : List (Addr × Obj)) (xe : Value → Shared → Prop) : At E p (X.tr l xe) := ⟨h.prog, h.w, h.K, h.mg, h.base, h.N, h.un, h.room, h.calm, h.sc, h.fn, h.stk⟩
theorem At.su (h : At E p X) (a : Addr) (l : List (Addr × Obj)) : At E p.su (X.suite a l) := ⟨h.prog, h.w, h.K, h.mg, h.base, h.N, h.un, fun z => Bool.noConfusion z, fun z => Bool.noConfusion z, h.sc, h.fn, h.stk⟩
/-- clauses, as they are written -/
inductive JH (E : En) (G : GC) (p : Pl) (n : Nat) (pn : List Nat) : List ExceptHandler → List (Nat × (DS → Option ES)) → Prop
  | nil : JH E G p n pn [] []
  | cons {x : Str} {c : Nat} {q pos : Pos} {b₀ : Stmt} {suite : List Stmt} {f : DS → Option ES} {hs : List ExceptHandler} {l : List (Nat × (DS → Option ES))} (hg : glOk p x = true) (hm : E.mg x = some (.ref (G.cls c))) (hb : JSs E G p.su n pn (b₀ :: suite) f) (r : JH E G p n pn hs l) :
      JH E G p n pn (.ExceptHandler (some (.Name x q)) none (b₀ :: suite) pos :: hs) ((c, f) :: l)
def tHds (G : GC) (n : Nat) (pn : List Nat) (l : List (Nat × (DS → Option ES))) : List (Value × (Addr → Value → Option Addr → TS)) := l.map fun h => (.ref (G.cls h.1), fun _ _ _ => rdS G W0 n pn h.2)
theorem JH.ok {hs : List ExceptHandler} {l : List (Nat × (DS → Option ES))} (h : JH E G p n pn hs l) (hA : At E p X) : HdsOk X hs (tHds G n pn l) := by
  induction h with
  | nil => exact .nil
  | @cons x c q pos b₀ suite f hs l hg hm hb r ih =>
    obtain ⟨g1, g2, _⟩ := at_gl hg hA
    exact .cons ⟨g1, g2, .inl (by rw [hA.mg]; exact hm)⟩ (fun a oe cls d l _ _ => hb _ W0 (hA.su a _) takes_w0 PassesOwn.never) ih
theorem rd_hd {Wout : WX} {nc : Nat} {exm : Nat → Nat → Bool} {x : Xc} (hx : x.c < nc) : ∀ (l : List (Nat × (DS → Option ES))), (∀ h ∈ l, ∀ i, i < nc → PySem.W.exmOne G.K (.ref (G.cls i)) (.ref (G.cls h.1)) = some (exm i h.1)) →
    ∀ {D : Ends} {S : Nat → AS} {σ : St} {H : Hp} {Z : AS} {FS : Nat → AS} {r : ES} {δ : DS} {c : Value} {dd : Option Addr}, σ.length = n → SR G Z S H δ σ FS → XR G Z H x c dd → evHd exm x l δ = some r → WantS G Wout S pn D σ H Z FS r → wMany G.K Wout D (tHds G n pn l) c dd σ H
  | [], _, D, S, σ, H, Z, FS, r, δ, c, dd, hn, sr, xr, e, w => by
    cases e
    exact w.ex x δ rfl c dd σ H Z FS ⟨sr, Step.refl _ _ _, xr, Pin.refl _ _⟩
  | (i, f) :: l, hl, D, S, σ, H, Z, FS, r, δ, c, dd, hn, sr, xr, e, w => by
    have e1 := hl (i, f) List.mem_cons_self x.c hx
    rw [evHd] at e
    refine ⟨exm x.c i, by rw [xr.1]; exact e1, fun hb a _ => ?_, fun hb => ?_⟩
    · rw [if_pos hb] at e
      cases q : f δ with
      | none => rw [q] at e; cases e
      | some o =>
        obtain ⟨o, δ2⟩ := o
        rw [q] at e
        cases o with
        | ex x' => cases e
        | nx => cases e; exact ⟨hn, δ, Z, S, FS, sr, _, q, w.nx, w.bk, w.ct, w.rt, fun _ _ er => by cases er⟩
        | bk => cases e; exact ⟨hn, δ, Z, S, FS, sr, _, q, w.nx, w.bk, w.ct, w.rt, fun _ _ er => by cases er⟩
        | ct => cases e; exact ⟨hn, δ, Z, S, FS, sr, _, q, w.nx, w.bk, w.ct, w.rt, fun _ _ er => by cases er⟩
        | rt d => cases e; exact ⟨hn, δ, Z, S, FS, sr, _, q, w.nx, w.bk, w.ct, w.rt, fun _ _ er => by cases er⟩
    · rw [if_neg (by rw [hb]; exact Bool.false_ne_true)] at e
      exact rd_hd hx l (fun h hh => hl h (List.mem_cons_of_mem _ hh)) hn sr xr e w
theorem rd_try {Wout : WX} {nc : Nat} {exm : Nat → Nat → Bool} {l : List (Nat × (DS → Option ES))} {body : DS → Option ES} (hl : ∀ h ∈ l, ∀ i, i < nc → PySem.W.exmOne G.K (.ref (G.cls i)) (.ref (G.cls h.1)) = some (exm i h.1)) :
    ∀ D σ H, rdS G Wout n pn (evTry nc exm l body) D σ H → rdS G (wMany G.K Wout D (tHds G n pn l)) n pn body D σ H := by
  rintro D σ H ⟨hn, δ, Z, S, FS, sr, r, hr, w⟩
  unfold evTry at hr
  cases q : body δ with
  | none => rw [q] at hr; cases hr
  | some o =>
    obtain ⟨o, δ2⟩ := o
    rw [q] at hr
    refine ⟨hn, δ, Z, S, FS, sr, (o, δ2), q, ?_⟩
    cases o with
    | ex x =>
      simp only at hr
      by_cases hx : x.c < nc
      · rw [if_pos hx] at hr
        refine ⟨fun _ e => (by cases e), fun _ e => (by cases e), fun _ e => (by cases e), fun _ _ e => (by cases e), fun x' δ' e c dd σ' H' Z' FS' p => ?_⟩
        cases e
        exact rd_hd hx l hl (p.pn.1.trans hn) p.sr p.xr hr (w.back ⟨p.sr, p.st, p.pn⟩)
      · rw [if_neg hx] at hr; cases hr
    | nx => cases hr; exact ⟨w.nx, w.bk, w.ct, w.rt, fun _ _ e => by cases e⟩
    | bk => cases hr; exact ⟨w.nx, w.bk, w.ct, w.rt, fun _ _ e => by cases e⟩
    | ct => cases hr; exact ⟨w.nx, w.bk, w.ct, w.rt, fun _ _ e => by cases e⟩
    | rt d => cases hr; exact ⟨w.nx, w.bk, w.ct, w.rt, fun _ _ e => by cases e⟩
theorem s_try {nc : Nat} {exm : Nat → Nat → Bool} {h₀ : ExceptHandler} {hs : List ExceptHandler} {l : List (Nat × (DS → Option ES))} {body : List Stmt} {f : DS → Option ES} {pos : Pos} (hG : G.K = E.K) (hb : JSs E G p n pn body f) (hh : JH E G p n pn (h₀ :: hs) l)
    (hl : ∀ h ∈ l, ∀ i, i < nc → PySem.W.exmOne E.K (.ref (G.cls i)) (.ref (G.cls h.1)) = some (exm i h.1)) (hi : p.inb = false := by rfl) : JS E G p n pn (.Try body (h₀ :: hs) [] [] pos) (evTry nc exm l f) := fun X W hA hT hP => by
  obtain ⟨s1, s2⟩ := hA.stk hi
  refine PS.mono (ps_try_many s1 s2 hT (tb := fun W => rdS G W n pn f) (fun W' l' xe tk po => hb _ W' (hA.tr l' xe) tk po) (hh.ok hA)) ?_
  have := rd_try (G := G) (n := n) (pn := pn) (Wout := W) (nc := nc) (exm := exm) (l := l) (body := f) (by rw [hG]; exact hl)
  rw [hG, ← hA.K] at this
  exact this
end
end PD
/-! P, part 24: default parameters. -/
namespace PD
open PySem L2
section
variable {E : En} {G : GC}
theorem cst_nil : Cst G [] [] := fun _ _ => ⟨rfl, fun i d v e => by simp at e⟩
theorem cst_cons {d : D} {v : V} {ds : List D} {vs : List V} (h : ∀ Z H, RepF G Z H d v) (r : Cst G ds vs) : Cst G (d :: ds) (v :: vs) := fun Z H => by
  obtain ⟨l, q⟩ := r Z H
  refine ⟨by simp [l], fun i d' v' e1 e2 => ?_⟩
  cases i with
  | zero => simp at e1 e2; subst e1 e2; exact h Z H
  | succ i => exact q i d' v' (by simpa using e1) (by simpa using e2)
theorem fd_dfl {x : Str} {k : Nat} {F : FD} {f : Addr} {fd : FuncData} {ps : List Str} {dds : List D} {dvs : List V} (h : FnOk E.P E.w E.K E.mg E.base (CX E.P E.w) k f fd ps (spF G F)) (hm : E.mg x = some (.ref f)) (hk : PySem.W.keepIn E.K (.ref f) = true) (hb : ∃ ds, Vals dvs ds ∧ Binds E.K fd ps ds) (hd : Cst G dds dvs) : Fd E G x k F dds := by
  obtain ⟨ds, h1, h2⟩ := hb
  exact ⟨f, fd, ps, ds, dvs, h, hm, hk, h2, h1, hd⟩
/-- which class is a part of which, by numbers -/
def HxOk (E : En) (G : GC) (nc : Nat) (exm : Nat → Nat → Bool) : Prop := ∀ i j, i < nc → j < nc → PySem.W.exmOne E.K (.ref (G.cls i)) (.ref (G.cls j)) = some (exm i j)
theorem hx_of {nc : Nat} {exm : Nat → Nat → Bool} {l : List (Nat × (DS → Option ES))} (hx : HxOk E G nc exm) (h : (l.all fun h => decide (h.1 < nc)) = true) : ∀ h ∈ l, ∀ i, i < nc → PySem.W.exmOne E.K (.ref (G.cls i)) (.ref (G.cls h.1)) = some (exm i h.1) := fun q hq i hi =>
  hx i q.1 hi (of_decide_eq_true (List.all_eq_true.mp h q hq))
end
end PD
/-! P, part 25: methods of texts with one argument. -/
namespace PD
open PySem L2

def isStr : D → Bool
  | .str _ => true
  | _ => false
def strOf : List D → Option (List Str)
  | [] => some []
  | .str z :: r => (strOf r).map (z :: ·)
  | _ :: _ => none
def gSplit : List D → Option D
  | [.str a, .str b] => if (b.length == 0) = false ∧ a.length ≤ 1000000 then some (.lst .o ((Txt.split a b).map .str)) else none
  | _ => none
def gJoin : List D → Option D
  | [.str a, .lst _ xs] => match strOf xs with
    | none => none
    | some ys => if (ys.map (·.length)).sum + ys.length * a.length ≤ 16777216 then some (.str (Txt.join a ys)) else none
  | _ => none
section
variable {E : En} {G : GC} {p : Pl} {X : Cx}
theorem strOf_eq : ∀ {xs : List D} {ys : List Str}, strOf xs = some ys → xs = ys.map .str
  | [], ys, h => by cases h; rfl
  | .str i :: r, ys, h => by
    rw [strOf] at h
    cases e : strOf r with
    | none => rw [e] at h; cases h
    | some m => rw [e] at h; cases h; rw [strOf_eq e]; rfl
  | .non :: _, _, h => by cases h
  | .bl _ :: _, _, h => by cases h
  | .int _ :: _, _, h => by cases h
  | .tup _ :: _, _, h => by cases h
  | .lst _ _ :: _, _, h => by cases h
  | .dic _ _ :: _, _, h => by cases h
  | .dit _ _ :: _, _, h => by cases h
  | .ins _ _ _ :: _, _, h => by cases h
  | .exc _ _ :: _, _, h => by cases h
theorem strs_V {Z S : AS} {H : Hp} {ns : List Str} {vs : List V} (hl : (ns.map D.str).length = vs.length) (he : ∀ (i : Nat) d w, (ns.map D.str)[i]? = some d → vs[i]? = some w → ∃ B, Rep G Z S H d w B) : vs = ns.map V.str := by
  refine List.ext_getElem? fun i => ?_
  by_cases hi : i < ns.length
  · have h2 : i < vs.length := by rw [← hl]; simpa using hi
    obtain ⟨B, r⟩ := he i (.str ns[i]) vs[i] (by simp [hi]) (by simp [h2])
    have := r.strV
    simp [h2, hi, this]
  · have h2 : ¬ i < vs.length := by rw [← hl]; simpa using hi
    rw [List.getElem?_eq_none (by omega), List.getElem?_eq_none (by simpa using hi)]
theorem ok_split (h : XO G X) : MtOk G X "str.split" gSplit := .of mt_split fun x xs H Q ⟨Z, S, ds, d, zs, a, e, k⟩ => by
  unfold gSplit at e
  split at e
  · rename_i a1 b1
    split at e
    · rename_i hc
      cases e
      obtain ⟨x', y', A, B, ev, r1, r2⟩ := argv2 a
      cases ev
      rw [r1.strV, r2.strV]
      refine ⟨a1, b1, rfl, rfl, hc.1, by rw [sizeLine_eq]; have := hc.2; omega, fun q hq => ?_⟩
      refine k.lst zs (by simp) (fun i d w e1 e2 => ?_) hq
      obtain ⟨y, f1, rfl⟩ := getMap e1
      obtain ⟨y', f2, rfl⟩ := getMap e2
      rw [f1] at f2; cases f2
      exact .str _
    · cases e
  · cases e
theorem ok_join (h : XO G X) : MtOk G X "str.join" gJoin := .of mt_join fun x xs H Q ⟨Z, S, ds, d, zs, a, e, k⟩ => by
  unfold gJoin at e
  split at e
  · rename_i a1 m xs'
    cases q : strOf xs' with
    | none => rw [q] at e; cases e
    | some ys =>
      rw [q] at e
      simp only at e
      split at e
      · rename_i hc
        cases e
        obtain ⟨x', y', A, B, ev, r1, r2⟩ := argv2 a
        cases ev
        rw [r1.strV]
        obtain ⟨pa, vs, rfl, sq, hl, he, _⟩ := r2.lstV
        rw [← h.K] at sq
        rw [strOf_eq q] at hl he
        rw [strs_V hl fun i d w e1 e2 => let ⟨B, r, _⟩ := he i d w e1 e2; ⟨B, r⟩] at sq
        exact ⟨a1, pa, ys, rfl, rfl, .inl sq, hc, k.str⟩
      · cases e
  · cases e
/-- o.m(e), o a text -/
theorem j_sm1 {v1 q1 v2 q2 : Bool} {id : String} {name : Str} {o e : Expr} {a pos : Pos} {g : List D → Option D} {fo fa : DS → Option ER} (hG : G.K = E.K) (slot : Slot "str" name id) (ty : typeOf (.builtin id) = pure (.type "method_descriptor")) (ho : ∀ {X}, XO G X → MtOk G X id g) (h1 : JE E G p v1 q1 o fo) (h2 : JE E G p v2 q2 e fa)
    (k1 : v1 = true → q1 = true := by decide) (k2 : v2 = true → q2 = true := by decide) (hs : StarNo e [] := by exact fun _ => rfl) (hb : ∀ env : Env, attributeBase o name env (eval o env) = eval o env := by exact fun _ => rfl) (hl : (a.endLine == pos.line) = true := by rfl) :
    JE E G p false (q1 && (q2 && true)) (.Call (.Attribute o name a) [e] [] pos) (evOp g (evCons v1 (q2 && true) (evGuard isStr fo) (evCons v2 true fa evNil))) := fun X W hA hT =>
  PE.mono (pe_m1 slot ty (ho (hA.xo hG)) (h1 X W hA hT) (h2 X W hA hT) (hs _) (hb _) hl) fun σ H Q h =>
    rd_op (snd_of G g) (rd_cons (rd_guard (P := fun v _ => ∃ a, v = .str a) (fun Z S H d v A r hd => by
      cases d <;> first | (cases hd; done) | exact ⟨_, r.strV⟩) (fun _ _ _ h => h)) (rd_cons (fun _ _ _ h => h) rd_nil k2) k1) σ H Q h
end
end PD
/-! P, part 26: chains of comparisons of any length. -/
namespace PD
open PySem L2 PyProof.Rows

abbrev Lk := (List D → Option D) × (DS → Option ER)
def evLinks : List Lk → D → DS → Option ER
  | [], _, _ => none
  | (g, f) :: rest, d, δ => match f δ with
    | none => none
    | some (.ex x, δ1) => some (.ex x, δ1)
    | some (.ok c, δ1) => if isF c then match g [d, c] with
        | some (.bl k) => if rest.isEmpty || !k then some (.ok (.bl k), δ1) else evLinks rest c δ1
        | _ => none
      else none
def evChainN (fa : DS → Option ER) (l : List Lk) : DS → Option ER := fun δ => match fa δ with
  | none => none
  | some (.ex x, δ1) => some (.ex x, δ1)
  | some (.ok a, δ1) => if isF a then evLinks l a δ1 else none
/-- the reading of the links behind a value -/
def rdL (G : GC) (W : WX) (l : List Lk) (d : D) (y : V) : TE := fun σ H Q => ∃ δ Z S FS, SR G Z S H δ σ FS ∧ RepF G Z H d y ∧ (∃ r, evLinks l d δ = some r) ∧
  (∀ k δ', evLinks l d δ = some (.ok (.bl k), δ') → ∀ H' Z' FS', PostB G S false σ H Z FS δ' H' Z' FS' → Q (.bl k) H') ∧
  (∀ x δ', evLinks l d δ = some (.ex x, δ') → ∀ c dd H' Z' FS', PostX G S σ H Z FS x δ' c dd H' Z' FS' → W c dd σ H')
section
variable {E : En} {G : GC} {W : WX} {X : Cx} {p : Pl}
theorem links_bl : ∀ {l : List Lk} {d : D} {δ : DS} {c : D} {δ' : DS}, evLinks l d δ = some (.ok c, δ') → ∃ k, c = .bl k
  | [], _, _, _, _, h => by cases h
  | (g, f) :: rest, d, δ, c, δ', h => by
    rw [evLinks] at h
    split at h
    · cases h
    · cases h
    · split at h
      · split at h
        · split at h
          · cases h; exact ⟨_, rfl⟩
          · exact links_bl h
        · cases h
      · cases h
/-- what one link asks of its operand -/
theorem rd_link {v q : Bool} {g : List D → Option D} {f : DS → Option ER} {rest : List Lk} {d : D} {y : V} {te : TE} (ha : ∀ σ H Q, rdE G W v q f σ H Q → te σ H Q) : ∀ σ H Q, rdL G W ((g, f) :: rest) d y σ H Q →
    te σ H fun w H1 => rOf G g [y, w] H1 fun z H2 => ∃ k, z = .bl k ∧ if (rest.isEmpty || !k) = true then Q (.bl k) H2 else ∃ c, rdL G W rest c w σ H2 Q := by
  rintro σ H Q ⟨δ, Z, S, FS, sr, rd, ⟨w0, hf⟩, ok, ex⟩
  rw [evLinks] at hf
  simp only [evLinks] at ok ex
  refine ha σ H _ ⟨δ, Z, S, FS, sr, ?_, fun c δ1 h w H1 Z1 FS1 A q1 => ?_, fun x δ1 h c dd H1 Z1 FS1 q1 => ?_⟩
  · cases q : f δ with
    | none => rw [q] at hf; cases hf
    | some w => exact ⟨w, rfl⟩
  · rw [h] at hf
    simp only [h] at hf ok ex
    by_cases hF : isF c = true
    · rw [if_pos hF] at hf
      simp only [if_pos hF] at ok ex
      obtain ⟨rc, b1⟩ := q1.fzn hF
      have rd1 := rd.step b1.st fun x z => (sr.nz x z).1
      have av : ArgV G Z1 S0 H1 [d, c] [y, w] := ⟨rfl, fun j d' v' e1 e2 => by
        match j with
        | 0 => simp at e1 e2; subst e1 e2; exact ⟨S0, .fz rd1 fun _ z => z⟩
        | 1 => simp at e1 e2; subst e1 e2; exact ⟨S0, .fz rc fun _ z => z⟩
        | j + 2 => simp at e1⟩
      cases eg : g [d, c] with
      | none => rw [eg] at hf; cases hf
      | some dk =>
        rw [eg] at hf
        simp only [eg] at ok ex
        refine ⟨Z1, S0, [d, c], dk, b1.sr.zs, av, eg, fun z H2 Z2 A2 sm zi zn rp fr => ?_⟩
        match dk, hf, ok, ex, rp with
        | .bl k, hf, ok, ex, rp =>
          simp only at hf ok ex
          refine ⟨k, rp.blV, ?_⟩
          have b2 : PostB G S false σ H Z FS δ1 H2 Z2 FS1 := ⟨b1.sr.grow sm zi zn, b1.st.trans ⟨fun a o e _ => sm a o e, fun a o e => ⟨o, sm a o e⟩, zi, fun a z => (zn a z).imp id fun q => .inr q.1, fun a z => .inl z⟩, fun q => absurd q Bool.false_ne_true⟩
          by_cases hk : (rest.isEmpty || !k) = true
          · rw [if_pos hk]
            simp only [if_pos hk] at ok
            exact ok k δ1 rfl H2 Z2 FS1 b2
          · rw [if_neg hk]
            rw [if_neg hk] at hf
            simp only [if_neg hk] at ok ex
            refine ⟨c, δ1, Z2, S, FS1, b2.sr, rc.mono zi fun a _ o e => sm a o e, ⟨_, hf⟩, fun k' δ' e H' Z' FS' b3 => ok k' δ' e H' Z' FS' ⟨b3.sr, b2.st.trans b3.st, fun q => absurd q Bool.false_ne_true⟩, fun x δ' e c' dd H' Z' FS' q => ex x δ' e c' dd H' Z' FS' ⟨q.sr, b2.st.trans q.st, q.xr⟩⟩
    · rw [if_neg hF] at hf; cases hf
  · simp only [h] at ex
    exact ex x δ1 rfl c dd H1 Z1 FS1 q1
/-- links, as they are written -/
inductive JL (E : En) (G : GC) (p : Pl) : List CmpOp → List Expr → List Lk → Prop
  | one {v q : Bool} {op : CmpOp} {e : Expr} {g : List D → Option D} {f : DS → Option ER} (ho : ∀ {X}, XO G X → BinOk G X (compareOp op) g) (he : JE E G p v q e f) : JL E G p [op] [e] [(g, f)]
  | cons {v q : Bool} {op op' : CmpOp} {ops : List CmpOp} {e e' : Expr} {es : List Expr} {g : List D → Option D} {f : DS → Option ER} {l : List Lk} (ho : ∀ {X}, XO G X → BinOk G X (compareOp op) g) (he : JE E G p v q e f) (r : JL E G p (op' :: ops) (e' :: es) l) : JL E G p (op :: op' :: ops) (e :: e' :: es) ((g, f) :: l)
theorem JL.ne {ops : List CmpOp} {es : List Expr} {l : List Lk} (h : JL E G p ops es l) : l.isEmpty = false := by cases h <;> rfl
theorem links_run (hG : G.K = E.K) (hA : At E p X) (hT : Takes X W) {ops : List CmpOp} {es : List Expr} {l : List Lk} (h : JL E G p ops es l) : ∀ {pins : List (Addr × Obj)} {s : Shared} {σ : L2.St} {H : Hp} {Q : VK} {d : D} {y : V} {u : Value} {pos : Pos}, Inv X pins σ H s → RelV y u → rdL G W l d y σ H Q →
    wpAny (model X.prog X.w) X.A (compareChain pos u ops (evalEach es X.env)) (EP X pins σ Q) X.xe s := by
  induction h with
  | one ho he =>
    intro pins s σ H Q d y u pos I ru hr
    refine chain_last (thn ((he X W hA hT).run pins s σ H _ I (rd_link (fun _ _ _ h => h) σ H Q hr)) fun w s1 ⟨x, H1, I1, r1, q1⟩ => ?_)
    refine wpAny_mono (ho (hA.xo hG) pins s1 σ H1 y x u w _ I1 ru r1 q1) (fun c s2 ⟨z, H2, I2, r2, k, e, q⟩ => ?_) fun _ _ x => x
    subst e
    exact ⟨.bl k, H2, I2, r2, q⟩
  | @cons v q op op' ops e e' es g f l ho he r ih =>
    intro pins s σ H Q d y u pos I ru hr
    refine chain_link (thn ((he X W hA hT).run pins s σ H _ I (rd_link (fun _ _ _ h => h) σ H Q hr)) fun w s1 ⟨x, H1, I1, r1, q1⟩ => thn (ho (hA.xo hG) pins s1 σ H1 y x u w _ I1 ru r1 q1) fun c s2 ⟨z, H2, I2, r2, k, e, q⟩ => ?_)
    subst e
    cases r2
    refine wpAny_truthy_bool ?_
    rw [r.ne] at q
    cases k with
    | false => exact ite_ff ⟨.bl false, H2, I2, rfl, q⟩
    | true =>
      obtain ⟨c, q⟩ := q
      exact ite_tt (ih I2 r1 q)
theorem links_test (hG : G.K = E.K) (hA : At E p X) (hT : Takes X W) {ops : List CmpOp} {es : List Expr} {l : List Lk} (h : JL E G p ops es l) : ∀ {pins : List (Addr × Obj)} {s : Shared} {σ : L2.St} {H : Hp} {Q : Bool → Hp → Prop} {d : D} {y : V} {u : Value} {pos : Pos}, Inv X pins σ H s → RelV y u → rdL G W l d y σ H (fun z H1 => ∃ k, z = .bl k ∧ Q k H1) →
    wpAny (model X.prog X.w) X.A (testChain pos u ops (evalEach es X.env)) (TP X pins σ Q) X.xe s := by
  induction h with
  | one ho he =>
    intro pins s σ H Q d y u pos I ru hr
    refine test_last (thn ((he X W hA hT).run pins s σ H _ I (rd_link (fun _ _ _ h => h) σ H _ hr)) fun w s1 ⟨x, H1, I1, r1, q1⟩ => thn (ho (hA.xo hG) pins s1 σ H1 y x u w _ I1 ru r1 q1) fun c s2 ⟨z, H2, I2, r2, k, e, q⟩ => ?_)
    subst e
    cases r2
    obtain ⟨k', e', q'⟩ := q
    cases e'
    exact wpAny_truthy_bool ⟨H2, I2, q'⟩
  | @cons v q op op' ops e e' es g f l ho he r ih =>
    intro pins s σ H Q d y u pos I ru hr
    refine test_link (thn ((he X W hA hT).run pins s σ H _ I (rd_link (fun _ _ _ h => h) σ H _ hr)) fun w s1 ⟨x, H1, I1, r1, q1⟩ => thn (ho (hA.xo hG) pins s1 σ H1 y x u w _ I1 ru r1 q1) fun c s2 ⟨z, H2, I2, r2, k, e, q⟩ => ?_)
    subst e
    cases r2
    refine wpAny_truthy_bool ?_
    rw [r.ne] at q
    cases k with
    | false =>
      obtain ⟨k', e', q'⟩ := q
      cases e'
      exact ite_ff ⟨H2, I2, q'⟩
    | true =>
      obtain ⟨c, q⟩ := q
      exact ite_tt (ih I2 r1 q)
/-- the first operand of a chain -/
theorem rd_first {v q : Bool} {fa : DS → Option ER} {l : List Lk} {te : TE} (ha : ∀ σ H Q, rdE G W v q fa σ H Q → te σ H Q) : ∀ σ H Q, rdE G W false false (evChainN fa l) σ H Q → te σ H fun y H1 => ∃ d, rdL G W l d y σ H1 Q := by
  rintro σ H Q ⟨δ, Z, S, FS, sr, ⟨w0, hf⟩, ok, ex⟩
  unfold evChainN at hf ok ex
  refine ha σ H _ ⟨δ, Z, S, FS, sr, ?_, fun a δ1 h y H1 Z1 FS1 A q1 => ?_, fun x δ1 h => ?_⟩
  · cases q : fa δ with
    | none => rw [q] at hf; cases hf
    | some w => exact ⟨w, rfl⟩
  · rw [h] at hf ok ex
    simp only at hf ok ex
    by_cases hF : isF a = true
    · rw [if_pos hF] at hf ok ex
      obtain ⟨ra, b1⟩ := q1.fzn hF
      refine ⟨a, δ1, Z1, S, FS1, b1.sr, ra, ⟨_, hf⟩, fun k δ' e H' Z' FS' b2 => ?_, fun x δ' e c dd H' Z' FS' q => ?_⟩
      · exact ok _ δ' e _ H' Z' FS' S0 (PostB.bl (q := false) ⟨b2.sr, b1.st.trans b2.st, fun q => absurd q Bool.false_ne_true⟩ k)
      · exact ex x δ' e c dd H' Z' FS' ⟨q.sr, b1.st.trans q.st, q.xr⟩
    · rw [if_neg hF] at hf; cases hf
  · rw [h] at ex
    exact ex x δ1 rfl
theorem j_chainN {v q : Bool} {op op' : CmpOp} {ops : List CmpOp} {a b c : Expr} {es : List Expr} {pos : Pos} {fa : DS → Option ER} {l : List Lk} (hG : G.K = E.K) (ha : JE E G p v q a fa) (hl : JL E G p (op :: op' :: ops) (b :: c :: es) l) (hm : lastMarks (op :: op' :: ops) (b :: c :: es) = false := by rfl) :
    JE E G p false false (.Compare a (op :: op' :: ops) (b :: c :: es) pos) (evChainN fa l) := fun X W hA hT => ⟨fun pins s σ H Q I h =>
  Compare_chain (thn ((ha X W hA hT).run pins s σ H _ I (rd_first (fun _ _ _ h => h) σ H Q h)) fun u s1 ⟨y, H1, I1, r1, d, q1⟩ => links_run hG hA hT hl I1 r1 q1) hm⟩
theorem j_tchainN {v q : Bool} {op op' : CmpOp} {ops : List CmpOp} {a b c : Expr} {es : List Expr} {pos : Pos} {fa : DS → Option ER} {l : List Lk} (hG : G.K = E.K) (ha : JE E G p v q a fa) (hl : JL E G p (op :: op' :: ops) (b :: c :: es) l) (hm : lastMarks (op :: op' :: ops) (b :: c :: es) = false := by rfl) :
    JT E G p false (.Compare a (op :: op' :: ops) (b :: c :: es) pos) (evTr blD (evChainN fa l)) := fun X W hA hT => ⟨fun pins s σ H Q I h => by
  have h2 := rd_trb (rd_first (G := G) (W := W) (fa := fa) (l := l) (v := v) (q := q) (te := rdE G W v q fa) fun _ _ _ h => h) σ H Q h
  exact isTrue_chain (thn ((ha X W hA hT).run pins s σ H _ I h2) fun u s1 ⟨y, H1, I1, r1, d, q1⟩ => links_test hG hA hT hl I1 r1 q1) hm⟩
end
end PD
/-! P, part 27: f(..).append(e): a new list changed and let go. -/
namespace PD
open PySem L2

def evAppT (fo f : DS → Option ER) : DS → Option ES := fun δ => match fo δ with
  | none => none
  | some (.ex x, δ1) => some (.ex x, δ1)
  | some (.ok d, δ1) => match d with
    | .lst .o xs => match f δ1 with
      | none => none
      | some (.ex x, δ2) => some (.ex x, δ2)
      | some (.ok _, δ2) => if xs.length < 1000000 then some (.nx, δ2) else none
    | _ => none
section
variable {E : En} {G : GC} {W : WX} {p : Pl} {n : Nat} {pn : List Nat}
theorem rd_appT {q1 v2 q2 : Bool} {fo f : DS → Option ER} {to te : TE} (ho : ∀ σ H Q, rdE G W false q1 fo σ H Q → to σ H Q) (ha : ∀ σ H Q, rdE G W v2 q2 f σ H Q → te σ H Q) : ∀ D σ H, rdS G W n pn (evAppT fo f) D σ H → tDrop (tBM G.K "list" rAppend to (tCons te tNil)) D σ H := by
  rintro D σ H ⟨hn, δ, Z, S, FS, sr, r, hr, w⟩
  unfold evAppT at hr
  refine ho σ H _ ⟨δ, Z, S, FS, sr, ?_, fun d δ1 h v H1 Z1 FS1 A q => ?_, fun x δ1 h c dd H1 Z1 FS1 q => ?_⟩
  · cases q : fo δ with
    | none => rw [q] at hr; cases hr
    | some w => exact ⟨w, rfl⟩
  · rw [h] at hr
    simp only at hr
    match d, hr, q with
    | .lst .o xs, hr, q =>
      have vl := q.vl
      rw [if_neg Bool.false_ne_true] at vl
      obtain ⟨rp, out⟩ := vl
      have got : ∃ a vs, v = .ref a ∧ H1 a = some (.lst vs) ∧ xs.length = vs.length ∧ A a := by
        cases rp with
        | fz h _ => exact absurd (show false = true from frz_of h) Bool.false_ne_true
        | lo h hl he hA => exact ⟨_, _, rfl, h, hl, (hA _).mpr rfl⟩
      obtain ⟨a, vs, rfl, ea, hl, hAa⟩ := got
      obtain ⟨nZ, nS, nF⟩ := out a hAa
      refine ⟨.inl ⟨rfl, vs, .inl (.inl ea)⟩, ?_⟩
      have b1 := q.b
      refine ha σ H1 _ ⟨δ1, Z1, S, FS1, b1.sr, ?_, fun c δ2 h2 w2 H2 Z2 FS2 A2 q2 => ?_, fun x δ2 h2 c dd H2 Z2 FS2 q2 => ?_⟩
      · cases q : f δ1 with
        | none => rw [q] at hr; cases hr
        | some w => exact ⟨w, rfl⟩
      · rw [h2] at hr
        simp only at hr
        by_cases hz : xs.length < 1000000
        · rw [if_pos hz] at hr
          cases hr
          have b2 := q2.b
          have e2 : H2 a = some (.lst vs) := b2.st.keep a _ ea nF
          have nZ2 : ¬ Z2 a := fun z => by
            rcases b2.st.znew a z with z | z | z
            · exact nZ z
            · exact nF z
            · rw [z] at ea; cases ea
          have nF2 : ¬ Own FS2 a := fun z => (b2.st.pnew a z).elim nF fun q => by rw [q] at ea; cases ea
          refine ⟨a, vs, w2, rfl, rfl, e2, by rw [← hl, sizeLine_eq]; omega, ?_⟩
          have st := b1.st.trans b2.st
          refine w.nx _ rfl σ _ Z2 FS2 ⟨b2.sr.other nZ2 nS nF2, ⟨fun x o e hx => ?_, fun x o e => ?_, st.zin, st.znew, st.pnew⟩, Pin.refl _ _⟩
          · have := st.keep x o e hx
            rw [upd_ne]; exact this
            rintro rfl
            rcases q.st.pnew x (.inr hAa) with z | z
            · exact hx z
            · rw [z] at e; cases e
          · by_cases hxa : x = a
            · rw [hxa]; exact ⟨_, upd_same⟩
            · rw [upd_ne hxa]; exact st.there x o e
        · rw [if_neg hz] at hr; cases hr
      · rw [h2] at hr; cases hr
        exact w.ex x _ rfl c dd σ H2 Z2 FS2 ⟨q2.sr, b1.st.trans q2.st, q2.xr, Pin.refl _ _⟩
  · rw [h] at hr; cases hr
    exact w.ex x _ rfl c dd σ H1 Z1 FS1 q.q
theorem s_appT {q1 v2 q2 : Bool} {o e : Expr} {a c pos : Pos} {fo f : DS → Option ER} (hG : G.K = E.K) (ho : JE E G p false q1 o fo) (ha : JE E G p v2 q2 e f) (h0 : ∀ env : Env, attributeBase o (Str.ofString "append") env (eval o env) = eval o env := by exact fun _ => rfl) (hs : StarNo e [] := by exact fun _ => rfl) (hp : (a.endLine == c.line) = true := by rfl)
    (h2 : ∀ env : Env, ((((backTo c (starEach [e] env)).all fun x => !x.1) && ((backToKw c (keywordEach [] env)).all fun x => x.1.isSome)) && decide (([e].length + ([] : List Keyword).length + if ([] : List Keyword).isEmpty = true then 0 else 1) < 30)) = true := by exact fun _ => rfl)
    (h3 : ∀ env : Env, swapsWith (.Call (.Attribute o (Str.ofString "append") a) [e] [] c) none pos.line env = pure false := by exact fun _ => rfl) : JS E G p n pn (.Expr (.Call (.Attribute o (Str.ofString "append") a) [e] [] c) pos) (evAppT fo f) := fun X W hA hT _ => by
  have P0 := ps_expr (pos := pos) (pe_bm (apos := a) (cpos := c) PySem.F.plainAttrs_list PySem.F.slot_list_append PySem.F.type_list_append mt_append (ho X W hA hT) (pa_cons (ha X W hA hT) pa_nil (hs _)) (h0 _) (h2 _) hp (hs _) (by rfl)) (h3 _)
  refine PS.mono P0 ?_
  have := rd_appT (G := G) (W := W) (n := n) (pn := pn) (fo := fo) (f := f) (q1 := q1) (v2 := v2) (q2 := q2) (to := rdE G W false q1 fo) (te := rdE G W v2 q2 f) (fun _ _ _ h => h) fun _ _ _ h => h
  rw [hG, ← hA.K] at this
  exact this
end
end PD
/-! P, part 28: try .. except X as n: return e. -/
namespace PD
open PySem L2

def sv : D → Option V
  | .non => some .non
  | .bl b => some (.bl b)
  | .int i => some (.int i)
  | .str z => some (.str z)
  | _ => none
def evTryAs (nc : Nat) (exm : Nat → Nat → Bool) (ci : Nat) (fx : Nat → Option D) (body : DS → Option ES) : DS → Option ES := fun δ => match body δ with
  | some (.ex x, δ') => if x.c < nc then (if exm x.c ci = true then (if x.fs.isEmpty = true then (match fx x.c with
      | some d => if (sv d).isSome then some (.rt d, δ') else none
      | none => none) else none) else some (.ex x, δ')) else none
  | r => r
def xIf (ft : Nat → Option Bool) (fa fb : Nat → Option D) : Nat → Option D := fun c => match ft c with | some true => fa c | some false => fb c | none => none
def xVal (fx : Nat → Option D) : Nat → Option Bool := fun c => (fx c).bind blD
def xCst (d : D) : Nat → Option D := fun _ => some d
def xIs (exm : Nat → Nat → Bool) (j : Nat) : Nat → Option D := fun c => some (.bl (exm c j))
section
variable {E : En} {G : GC} {p : Pl} {X : Cx} {n : Nat} {pn : List Nat} {i nc : Nat}
/-- an expression in the suite: c is the class of the exception that slot i holds -/
def JX (E : En) (G : GC) (p : Pl) (i nc : Nat) (e : Expr) (fx : Nat → Option D) : Prop := ∀ X a c oe l, At E p X → c < nc → Zc (.ref (G.cls c)) none oe → (∃ vs, oe.data = .fields vs) → ∀ d v, fx c = some d → sv d = some v →
  PE (X.suite a ((a, oe) :: l)) e (fun σ H Q => σ[i]? = some (some (.ref a)) ∧ Q v H)
def JXT (E : En) (G : GC) (p : Pl) (i nc : Nat) (e : Expr) (ft : Nat → Option Bool) : Prop := ∀ X a c oe l, At E p X → c < nc → Zc (.ref (G.cls c)) none oe → (∃ vs, oe.data = .fields vs) → ∀ b, ft c = some b →
  PT (X.suite a ((a, oe) :: l)) e (fun σ H Q => σ[i]? = some (some (.ref a)) ∧ Q b H)
theorem x_int {k : Int} {j : Nat} {pos : Pos} : JX E G p i nc (.Constant (.int k) j pos) (xCst (.int k)) := fun X a c oe l hA hc hz hf d v e1 e2 => by
  cases e1; cases e2; exact PE.mono pe_int fun σ H Q h => h.2
theorem x_str {k : Str} {j : Nat} {pos : Pos} : JX E G p i nc (.Constant (.str k) j pos) (xCst (.str k)) := fun X a c oe l hA hc hz hf d v e1 e2 => by
  cases e1; cases e2; exact PE.mono pe_str fun σ H Q h => h.2
theorem x_bl {k : Bool} {j : Nat} {pos : Pos} : JX E G p i nc (.Constant (.bool k) j pos) (xCst (.bl k)) := fun X a c oe l hA hc hz hf d v e1 e2 => by
  cases e1; cases e2; exact PE.mono pe_bl fun σ H Q h => h.2
theorem x_non {j : Nat} {pos : Pos} : JX E G p i nc (.Constant .none j pos) (xCst .non) := fun X a c oe l hA hc hz hf d v e1 e2 => by
  cases e1; cases e2; exact PE.mono pe_non fun σ H Q h => h.2
/-- what isinstance asks of the classes -/
structure IsOk (E : En) (G : GC) (nc : Nat) (exm : Nat → Nat → Bool) : Prop where
  cls : ∀ c, c < nc → ExcC E.K (G.cls c)
  kit : ∀ c j, c < nc → j < nc → PySem.W.kitOne E.K (.ref (G.cls c)) (.ref (G.cls j)) = some (exm c j)
theorem x_is {exm : Nat → Nat → Bool} {x y z : Str} {j : Nat} {q q2 q3 pos : Pos} (K : IsOk E G nc exm) (hj : j < nc) (hx : x = Str.ofString "isinstance") (hg : glOk p x = true) (hm : E.mg x = none) (hy : nmOk p i y = true) (hgz : glOk p z = true) (hmz : E.mg z = some (.ref (G.cls j))) :
    JX E G p i nc (.Call (.Name x q) [.Name y q2, .Name z q3] [] pos) (xIs exm j) := fun X a c oe l hA hc hz hf d v e1 e2 => by
  cases e1; cases e2
  have hS := hA.su a ((a, oe) :: l)
  obtain ⟨g1, g2, g3⟩ := at_gl (p := p.su) hg hS
  obtain ⟨k1, k2, k3⟩ := at_gl (p := p.su) hgz hS
  have hb : bootBuiltins x = some (.builtin "isinstance") := by rw [hx]; decide +kernel
  have C := K.cls c hc
  rw [← hA.K] at C
  refine PE.mono (pe_callB (call_isE C hz hf) g1 (by rw [hS.mg]; exact hm) hb (pa_cons (at_pe (p := p.su) hy hS) (pa_cons (pe_glob (v := .ref (G.cls j)) k1 (by rw [hS.mg]; exact hmz) rfl k2) pa_nil (by rfl)) (by rfl)) g3 g2 (by rfl) (by rfl)) fun σ H Q h => ?_
  have kt := K.kit c j hc hj
  rw [← hA.K] at kt
  exact ⟨_, h.1, _, .ref (G.cls j), exm c j, rfl, fun u r => r, kt, h.2⟩
theorem blD_eq {d : D} {b : Bool} (h : blD d = some b) : d = .bl b := by
  cases d <;> first | (cases h; rfl) | cases h
theorem x_val {e : Expr} {fx : Nat → Option D} (h : JX E G p i nc e fx) (he : PlainT e := by exact fun _ _ => rfl) : JXT E G p i nc e (xVal fx) := fun X a c oe l hA hc hz hf b e1 => by
  obtain ⟨d, q, e2⟩ := Option.bind_eq_some_iff.mp e1
  have := blD_eq e2
  subst this
  exact PT.mono (pt_val (h X a c oe l hA hc hz hf _ _ q rfl) (he _)) fun σ H Q q => ⟨q.1, b, rfl, q.2⟩
theorem x_if {c0 a0 b0 : Expr} {pos : Pos} {ft : Nat → Option Bool} {fa fb : Nat → Option D} (hc : JXT E G p i nc c0 ft) (ha : JX E G p i nc a0 fa) (hb : JX E G p i nc b0 fb) : JX E G p i nc (.IfExp c0 a0 b0 pos) (xIf ft fa fb) := fun X a c oe l hA hcn hz hf d v e1 e2 => by
  unfold xIf at e1
  cases q : ft c with
  | none => rw [q] at e1; cases e1
  | some b =>
    rw [q] at e1
    have t := hc X a c oe l hA hcn hz hf b q
    cases b with
    | true =>
      have r := ha X a c oe l hA hcn hz hf d v e1 e2
      exact PE.mono (pe_ifExp t r (ta := _) (PE.mk (t := fun _ _ _ => False) fun _ _ _ _ _ _ h => h.elim)) fun σ H Q h => ⟨h.1, by dsimp only; rw [if_pos rfl]; exact h⟩
    | false =>
      have r := hb X a c oe l hA hcn hz hf d v e1 e2
      exact PE.mono (pe_ifExp t (ta := fun _ _ _ => False) (PE.mk fun _ _ _ _ _ _ h => h.elim) r) fun σ H Q h => ⟨h.1, by dsimp only; rw [if_neg Bool.false_ne_true]; exact h⟩
theorem s_tryAs {exm : Nat → Nat → Bool} {ci : Nat} {fx : Nat → Option D} {x nm : Str} {e : Expr} {body : List Stmt} {f : DS → Option ES} {np pos pos' rpos : Pos} (hG : G.K = E.K) (hb : JSs E G p n pn body f) (he : JX E G p i nc e fx) (hg : glOk p x = true) (hm : E.mg x = some (.ref (G.cls ci))) (hci : ci < nc) (hx : HxOk E G nc exm)
    (hN : p.N.Nodup) (hi : p.N[i]? = some nm) (hln : p.sc.names.lookup nm = some .local) (hin : i < n) (hib : p.inb = false := by rfl) : JS E G p n pn (.Try body [.ExceptHandler (some (.Name x np)) (some nm) [.Return (some e) rpos] pos'] [] [] pos) (evTryAs nc exm ci fx f) := fun X W hA hT hP => by
  obtain ⟨s1, s2⟩ := hA.stk hib
  obtain ⟨g1, g2, _⟩ := at_gl hg hA
  let ts : Addr → Value → Option Addr → TS := fun a cls d D σ H => ∃ c dd v, c < nc ∧ cls = .ref (G.cls c) ∧ d = none ∧ fx c = some dd ∧ sv dd = some v ∧ σ[i]? = some (some (.ref a)) ∧ D.rt v H
  refine PS.mono (ps_try_as (i := i) s1 s2 (by rw [hA.N]; exact hN) (by rw [hA.N]; exact hi) (by show X.env.scope.names.lookup nm = _; rw [hA.sc]; exact hln) ⟨g1, g2, .inl (by rw [hA.mg]; exact hm)⟩ hT (tb := fun W => rdS G W n pn f) (ts := ts)
    (fun W' l' xe tk po => hb _ W' (hA.tr l' xe) tk po) (fun a oe cls d l hz hf => ⟨fun pins s σ H D I h => ?_⟩)) fun D σ H h => ?_
  · obtain ⟨c, dd, v, hc, rfl, rfl, e1, e2, e3, q⟩ := h
    exact (pss_cons (ps_ret (he X a c oe l hA hc hz hf dd v e1 e2)) pss_nil).run pins s σ H D I ⟨e3, q⟩
  · obtain ⟨hn, δ, Z, S, FS, sr, r, hr, w⟩ := h
    unfold evTryAs at hr
    cases q : f δ with
    | none => rw [q] at hr; cases hr
    | some o =>
      obtain ⟨o, δ2⟩ := o
      rw [q] at hr
      refine ⟨hn, δ, Z, S, FS, sr, (o, δ2), q, ?_⟩
      cases o with
      | nx => cases hr; exact ⟨w.nx, w.bk, w.ct, w.rt, fun _ _ e => by cases e⟩
      | bk => cases hr; exact ⟨w.nx, w.bk, w.ct, w.rt, fun _ _ e => by cases e⟩
      | ct => cases hr; exact ⟨w.nx, w.bk, w.ct, w.rt, fun _ _ e => by cases e⟩
      | rt d => cases hr; exact ⟨w.nx, w.bk, w.ct, w.rt, fun _ _ e => by cases e⟩
      | ex x' =>
        simp only at hr
        by_cases hc : x'.c < nc
        · rw [if_pos hc] at hr
          refine ⟨fun _ e => (by cases e), fun _ e => (by cases e), fun _ e => (by cases e), fun _ _ e => (by cases e), fun y δ' e c dd σ' H' Z' FS' pq => ?_⟩
          cases e
          have ex := hx x'.c ci hc hci
          rw [← hA.K] at ex
          refine ⟨exm x'.c ci, by rw [pq.xr.1]; exact ex, fun hbt a _ => ?_, fun hbf => ?_⟩
          · rw [if_pos hbt] at hr
            by_cases hfs : x'.fs.isEmpty = true
            · rw [if_pos hfs] at hr
              have dn : dd = none := by
                rcases pq.xr.2 with ⟨_, h⟩ | ⟨h, _⟩
                · exact h
                · exact absurd (List.isEmpty_iff.mp hfs) h
              cases e1 : fx x'.c with
              | none => rw [e1] at hr; cases hr
              | some d =>
                rw [e1] at hr
                simp only at hr
                cases e2 : sv d with
                | none => rw [e2] at hr; cases hr
                | some v =>
                  rw [e2] at hr
                  cases hr
                  have hl' : i < σ'.length := by rw [pq.pn.1, hn]; exact hin
                  refine ⟨x'.c, d, v, hc, pq.xr.1, dn, e1, e2, by rw [List.getElem?_set_self hl'], ?_⟩
                  have rf : ∀ Z H, RepF G Z H d v := fun Z H => by
                    cases d <;> first | (cases e2; constructor; done) | cases e2
                  exact w.rt d _ rfl v σ' H' Z' FS' S0 ⟨pq.sr, pq.st.sub fun a z => z.elim id fun q => q.elim, ⟨.fz (rf _ _) fun _ z => z, fun x z => z.elim⟩, pq.pn⟩
            · rw [if_neg hfs] at hr; cases hr
          · rw [if_neg (by rw [hbf]; exact Bool.false_ne_true)] at hr
            cases hr
            exact w.ex x' _ rfl c dd σ' H' Z' FS' pq
        · rw [if_neg hc] at hr; cases hr
end
end PD
/-! P, part 29: the newer pieces told forwards. -/
namespace PD
open PySem L2
section
variable {Q : RR D → DS → Prop} {QS : Out → DS → Prop} {δ : DS}
theorem g_raise {c : Nat} {fa : DS → Option EA} : Go (evRaise c fa) δ QS = GE fa δ (kS (fun ds δ' => ds.length ≤ 1000 ∧ QS (.ex ⟨c, []⟩) δ') QS) :=
  Eq.trans (bindS (h := fun ds δ' => if ds.length ≤ 1000 then some (.ex ⟨c, []⟩, δ') else none) (by unfold evRaise; rcases fa δ with _ | ⟨_ | _, _⟩ <;> rfl)) (congrArg _ (kSc fun _ _ => by rw [iteN, ex2]))
theorem e_isi {T : String} {f : DS → Option ER} : GE (evIsi T f) δ Q = GE f δ (kk (fun d δ' => has (tyOf d) fun a => Q (.ok (.bl (isT a T))) δ') Q) :=
  Eq.trans (bindG (h := fun d δ' => match tyOf d with | none => none | some a => some (.ok (.bl (isT a T)), δ')) (by unfold evIsi; rcases f δ with _ | ⟨_ | _, _⟩ <;> rfl)) (congrArg _ (kkc fun d δ' => by generalize tyOf d = o; cases o with | none => rw [has_none]; exact ex2n | some a => rw [has_some]; exact ex2))
theorem g_asgT {tg : D → DS → Option DS} {f : DS → Option ER} : Go (evAsgT tg f) δ QS = GE f δ (kS (fun d δ' => isF d = true ∧ has (tg d δ') fun δ2 => QS .nx δ2) QS) :=
  Eq.trans (bindS (h := fun d δ' => if isF d then match tg d δ' with | none => none | some δ2 => some (.nx, δ2) else none) (by unfold evAsgT; rcases f δ with _ | ⟨_ | _, _⟩ <;> rfl)) (congrArg _ (kSc fun d δ' => by
    rw [iteN]
    generalize tg d δ' = o
    cases o with
    | none => rw [has_none]; exact congrArg _ ex2n
    | some a => rw [has_some]; exact congrArg _ ex2))
theorem e_grd {c : D → Bool} {f : DS → Option ER} : GE (evGuard c f) δ Q = GE f δ (kk (fun d δ' => c d = true ∧ Q (.ok d) δ') Q) :=
  Eq.trans (bindG (h := fun d δ' => if c d then some (.ok d, δ') else none) (by unfold evGuard; rcases f δ with _ | ⟨_ | _, _⟩ <;> rfl)) (congrArg _ (kkc fun d δ' => by rw [iteN, ex2]))
end
end PD
/-! P, part 30: try and chains told forwards. -/
namespace PD
open PySem L2
/-- what is wanted of a clause's outcome: no exception -/
def noX (Q : Out → DS → Prop) : Out → DS → Prop
  | .ex _, _ => False
  | o, δ => Q o δ
def hdQ (exm : Nat → Nat → Bool) (x : Xc) (Q : Out → DS → Prop) : List (Nat × (DS → Option ES)) → DS → Prop
  | [], δ => Q (.ex x) δ
  | (c, f) :: r, δ => if exm x.c c = true then Go f δ (noX Q) else hdQ exm x Q r δ
def tryQ (nc : Nat) (exm : Nat → Nat → Bool) (l : List (Nat × (DS → Option ES))) (Q : Out → DS → Prop) : Out → DS → Prop
  | .ex x, δ => x.c < nc ∧ hdQ exm x Q l δ
  | o, δ => Q o δ
section
variable {QS : Out → DS → Prop} {δ : DS}
theorem hd_go {exm : Nat → Nat → Bool} {x : Xc} : ∀ {l : List (Nat × (DS → Option ES))} {δ : DS}, hdQ exm x QS l δ → ∃ r δ2, evHd exm x l δ = some (r, δ2) ∧ QS r δ2
  | [], δ, h => ⟨_, _, rfl, h⟩
  | (c, f) :: r, δ, h => by
    rw [hdQ] at h
    rw [evHd]
    by_cases hc : exm x.c c = true
    · rw [if_pos hc] at h ⊢
      obtain ⟨o, δ2, e, q⟩ := h
      rw [e]
      cases o with
      | ex y => exact q.elim
      | nx => exact ⟨_, _, rfl, q⟩
      | bk => exact ⟨_, _, rfl, q⟩
      | ct => exact ⟨_, _, rfl, q⟩
      | rt d => exact ⟨_, _, rfl, q⟩
    · rw [if_neg hc] at h ⊢
      exact hd_go h
theorem go_try {nc : Nat} {exm : Nat → Nat → Bool} {l : List (Nat × (DS → Option ES))} {body : DS → Option ES} (h : Go body δ (tryQ nc exm l QS)) : Go (evTry nc exm l body) δ QS := by
  obtain ⟨o, δ2, e, q⟩ := h
  unfold Go evTry
  rw [e]
  cases o with
  | ex x =>
    simp only
    rw [if_pos q.1]
    exact hd_go q.2
  | nx => exact ⟨_, _, rfl, q⟩
  | bk => exact ⟨_, _, rfl, q⟩
  | ct => exact ⟨_, _, rfl, q⟩
  | rt d => exact ⟨_, _, rfl, q⟩
end
end PD
/-! P, part 31: chains of any length told forwards. -/
namespace PD
open PySem L2
def lkQ : List Lk → D → DS → (RR D → DS → Prop) → Prop
  | [], _, _, _ => False
  | (g, f) :: rest, d, δ, Q => GE f δ (kk (fun c δ1 => isF c = true ∧ has (g [d, c]) fun e => has (blD e) fun k => if (rest.isEmpty || !k) = true then Q (.ok (.bl k)) δ1 else lkQ rest c δ1 Q) Q)
theorem lk_go {Q : RR D → DS → Prop} : ∀ {l : List Lk} {d : D} {δ : DS}, lkQ l d δ Q → ∃ r δ2, evLinks l d δ = some (r, δ2) ∧ Q r δ2
  | [], d, δ, h => h.elim
  | (g, f) :: rest, d, δ, h => by
    obtain ⟨r, δ1, e, q⟩ := h
    rw [evLinks, e]
    cases r with
    | ex x => exact ⟨_, _, rfl, q⟩
    | ok c =>
      obtain ⟨hF, e1, q1, k, q2, q⟩ := q
      have := blD_eq q2
      subst this
      simp only
      rw [if_pos hF, q1]
      simp only
      by_cases hk : (rest.isEmpty || !k) = true
      · rw [if_pos hk] at q ⊢
        exact ⟨_, _, rfl, q⟩
      · rw [if_neg hk] at q ⊢
        exact lk_go q
theorem ge_chainN {fa : DS → Option ER} {l : List Lk} {δ : DS} {Q : RR D → DS → Prop} (h : GE fa δ (kk (fun a δ1 => isF a = true ∧ lkQ l a δ1 Q) Q)) : GE (evChainN fa l) δ Q := by
  obtain ⟨r, δ1, e, q⟩ := h
  unfold GE evChainN
  rw [e]
  cases r with
  | ex x => exact ⟨_, _, rfl, q⟩
  | ok a =>
    simp only
    rw [if_pos q.1]
    exact lk_go q.2
end PD
/-! P, part 32: what isinstance asks of own exception classes, read off the heap. -/
namespace PD
open PySem L2
def gcN (ns : List Str) (K : PySem.W.Frag) : GC := ⟨K, fun i => He.ga K (ns.getD i ""), fun _ => Str.ofString ""⟩
def excB (K : PySem.W.Frag) (D : Addr) : Bool :=
  decide (PySem.W.findIn K (.ref D) "__getattribute__" = some (some (.builtin "BaseException.__getattribute__"))) &&
  (decide (PySem.W.findIn K (.ref D) "__getattr__" = some none) &&
  (decide (PySem.W.subIn K (.ref D) (.type "BaseException") = some true) &&
  (PySem.W.hasDictIn K D &&
  (decide (PySem.W.findIn K (.ref D) "__class__" = some (some (.builtin "object.__class__"))) &&
  (decide (PySem.W.specialIn K (.builtin "object.__class__") "__get__" = some (some (.builtin "getset_descriptor.__get__"))) &&
  (decide (PySem.W.takesIn K (.builtin "object.__class__") = some true) &&
  decide (PySem.W.mroIn K D (.type "object") = some true)))))))
theorem excB_ok {K : PySem.W.Frag} {D : Addr} (h : excB K D = true) : ExcC K D := by
  obtain ⟨h1, h⟩ := He.ba h
  obtain ⟨h2, h⟩ := He.ba h
  obtain ⟨h3, h⟩ := He.ba h
  obtain ⟨h4, h⟩ := He.ba h
  obtain ⟨h5, h⟩ := He.ba h
  obtain ⟨h6, h⟩ := He.ba h
  obtain ⟨h7, h8⟩ := He.ba h
  exact ⟨of_decide_eq_true h1, of_decide_eq_true h2, of_decide_eq_true h3, h4, of_decide_eq_true h5, of_decide_eq_true h6, of_decide_eq_true h7, of_decide_eq_true h8⟩
def isB (ns : List Str) (exm : Nat → Nat → Bool) (K : PySem.W.Frag) : Bool :=
  (List.range ns.length).all fun i => excB K (He.ga K (ns.getD i "")) && (List.range ns.length).all fun j => decide (PySem.W.kitOne K (.ref (He.ga K (ns.getD i ""))) (.ref (He.ga K (ns.getD j ""))) = some (exm i j))
theorem isB_ok {ns : List Str} {exm : Nat → Nat → Bool} {E : En} (h : isB ns exm E.K = true) : IsOk E (gcN ns E.K) ns.length exm :=
  ⟨fun c hc => excB_ok (He.ba (List.all_eq_true.mp h c (List.mem_range.mpr hc))).1,
   fun c j hc hj => of_decide_eq_true (List.all_eq_true.mp (He.ba (List.all_eq_true.mp h c (List.mem_range.mpr hc))).2 j (List.mem_range.mpr hj))⟩
end PD
/-! P, part 33: try .. as, f(..).append(e), chains told forwards as equations; texts. -/
namespace PD
open PySem L2
def tasQ (nc : Nat) (exm : Nat → Nat → Bool) (ci : Nat) (fx : Nat → Option D) (Q : Out → DS → Prop) : Out → DS → Prop
  | .ex x, δ => x.c < nc ∧ if exm x.c ci = true then x.fs.isEmpty = true ∧ has (fx x.c) fun d => (sv d).isSome = true ∧ Q (.rt d) δ else Q (.ex x) δ
  | o, δ => Q o δ
section
variable {Q : RR D → DS → Prop} {QS : Out → DS → Prop} {δ : DS}
theorem bindO {f f' : DS → Option ES} {Q R : Out → DS → Prop} {δ : DS} (h : Out → DS → Option ES) (e : f' δ = match f δ with | none => none | some (o, δ') => h o δ') (hq : ∀ o δ', (∃ r δ2, h o δ' = some (r, δ2) ∧ Q r δ2) = R o δ') : Go f' δ Q = Go f δ R := by
  unfold Go
  rw [e]
  cases f δ with
  | none => simp
  | some w =>
    obtain ⟨o, δ1⟩ := w
    exact (hq o δ1).trans (propext ⟨fun q => ⟨_, _, rfl, q⟩, fun ⟨_, _, e, q⟩ => (by cases e; exact q)⟩)
theorem hd_eq {exm : Nat → Nat → Bool} {x : Xc} : ∀ {l : List (Nat × (DS → Option ES))} {δ : DS}, (∃ r δ2, evHd exm x l δ = some (r, δ2) ∧ QS r δ2) = hdQ exm x QS l δ
  | [], δ => ex2
  | (c, f) :: r, δ => by
    rw [hdQ, evHd]
    by_cases hc : exm x.c c = true
    · rw [if_pos hc, if_pos hc]
      unfold Go
      cases f δ with
      | none => simp
      | some w =>
        obtain ⟨o, δ1⟩ := w
        refine Eq.trans ?_ (show noX QS o δ1 = _ from propext ⟨fun q => ⟨_, _, rfl, q⟩, fun ⟨_, _, e, q⟩ => (by cases e; exact q)⟩)
        cases o with
        | ex y => exact ex2n
        | nx => exact ex2
        | bk => exact ex2
        | ct => exact ex2
        | rt d => exact ex2
    · rw [if_neg hc, if_neg hc]
      exact hd_eq
theorem g_try {nc : Nat} {exm : Nat → Nat → Bool} {l : List (Nat × (DS → Option ES))} {body : DS → Option ES} : Go (evTry nc exm l body) δ QS = Go body δ (tryQ nc exm l QS) := by
  refine bindO (fun o δ' => match o with | .ex x => if x.c < nc then evHd exm x l δ' else none | o => some (o, δ')) (by unfold evTry; rcases body δ with _ | ⟨_ | _ | _ | _ | _, _⟩ <;> rfl) fun o δ' => ?_
  cases o with
  | ex x => exact iteN.trans (congrArg _ hd_eq)
  | nx => exact ex2
  | bk => exact ex2
  | ct => exact ex2
  | rt d => exact ex2
theorem g_tryAs {nc : Nat} {exm : Nat → Nat → Bool} {ci : Nat} {fx : Nat → Option D} {body : DS → Option ES} : Go (evTryAs nc exm ci fx body) δ QS = Go body δ (tasQ nc exm ci fx QS) := by
  refine bindO (fun o δ' => match o with
    | .ex x => if x.c < nc then (if exm x.c ci = true then (if x.fs.isEmpty = true then (match fx x.c with
      | some d => if (sv d).isSome then some (.rt d, δ') else none
      | none => none) else none) else some (.ex x, δ')) else none
    | o => some (o, δ')) (by unfold evTryAs; rcases body δ with _ | ⟨_ | _ | _ | _ | _, _⟩ <;> rfl) fun o δ' => ?_
  cases o with
  | ex x =>
    refine iteN.trans (congrArg _ (iteC.trans ?_))
    refine congr (congrArg _ (iteN.trans (congrArg _ ?_))) ex2
    cases fx x.c with
    | none => rw [has_none]; exact ex2n
    | some d => rw [has_some]; exact iteN.trans (congrArg _ ex2)
  | nx => exact ex2
  | bk => exact ex2
  | ct => exact ex2
  | rt d => exact ex2
theorem g_appT {fo f : DS → Option ER} : Go (evAppT fo f) δ QS = GE fo δ (kS (fun d δ1 => has (lstO d) fun xs => GE f δ1 (kS (fun _ δ2 => xs.length < 1000000 ∧ QS .nx δ2) QS)) QS) := by
  refine Eq.trans (bindS (h := fun d δ1 => match d with | .lst .o xs => (match f δ1 with | none => none | some (.ex x, δ2) => some (.ex x, δ2) | some (.ok _, δ2) => if xs.length < 1000000 then some (.nx, δ2) else none) | _ => none) (by unfold evAppT; rcases fo δ with _ | ⟨_ | _, _⟩ <;> rfl)) (congrArg _ (kSc fun d δ1 => ?_))
  cases d with
  | lst m xs =>
    cases m with
    | o =>
      rw [show lstO (.lst .o xs) = some xs from rfl, has_some]
      exact bindS (f := f) (f' := fun δ1 => match f δ1 with | none => none | some (.ex x, δ2) => some (.ex x, δ2) | some (.ok _, δ2) => if xs.length < 1000000 then some (.nx, δ2) else none) (h := fun _ δ2 => if xs.length < 1000000 then some (.nx, δ2) else none) (by rcases f δ1 with _ | ⟨_ | _, _⟩ <;> rfl) |>.trans (congrArg _ (kSc fun _ _ => iteN.trans (congrArg _ ex2)))
    | _ => rw [show lstO _ = none from rfl, has_none]; exact ex2n
  | _ => rw [show lstO _ = none from rfl, has_none]; exact ex2n
theorem lk_eq : ∀ {l : List Lk} {d : D} {δ : DS}, (∃ r δ2, evLinks l d δ = some (r, δ2) ∧ Q r δ2) = lkQ l d δ Q
  | [], d, δ => ex2n
  | (g, f) :: rest, d, δ => by
    rw [lkQ]
    refine Eq.trans (bindG (f := f) (f' := fun δ => evLinks ((g, f) :: rest) d δ) (h := fun c δ1 => if isF c then match g [d, c] with
        | some (.bl k) => if rest.isEmpty || !k then some (.ok (.bl k), δ1) else evLinks rest c δ1
        | _ => none
      else none) (by rw [evLinks]; rcases f δ with _ | ⟨_ | _, _⟩ <;> rfl)) (congrArg _ (kkc fun c δ1 => ?_))
    refine iteN.trans (congrArg _ ?_)
    cases g [d, c] with
    | none => rw [has_none]; exact ex2n
    | some e =>
      rw [has_some]
      cases e with
      | bl k =>
        rw [show blD (.bl k) = some k from rfl, has_some]
        exact iteC.trans (congr (congrArg _ ex2) lk_eq)
      | _ => rw [show blD _ = none from rfl, has_none]; exact ex2n
theorem e_chainN {fa : DS → Option ER} {l : List Lk} {δ : DS} {Q : RR D → DS → Prop} : GE (evChainN fa l) δ Q = GE fa δ (kk (fun a δ1 => isF a = true ∧ lkQ l a δ1 Q) Q) :=
  Eq.trans (bindG (h := fun a δ1 => if isF a then evLinks l a δ1 else none) (by unfold evChainN; rcases fa δ with _ | ⟨_ | _, _⟩ <;> rfl)) (congrArg _ (kkc fun a δ1 => iteN.trans (congrArg _ lk_eq)))
theorem lkQ_1 {g : List D → Option D} {f : DS → Option ER} {d : D} : lkQ [(g, f)] d δ Q = GE f δ (kk (fun c δ1 => isF c = true ∧ has (g [d, c]) fun e => has (blD e) fun k => Q (.ok (.bl k)) δ1) Q) := rfl
theorem lkQ_2 {g : List D → Option D} {f : DS → Option ER} {a : Lk} {l : List Lk} {d : D} : lkQ ((g, f) :: a :: l) d δ Q = GE f δ (kk (fun c δ1 => isF c = true ∧ has (g [d, c]) fun e => has (blD e) fun k => if k = true then lkQ (a :: l) c δ1 Q else Q (.ok (.bl false)) δ1) Q) := by
  rw [lkQ]
  refine congrArg _ (kkc fun c δ1 => congrArg _ (congrArg _ (funext fun e => congrArg _ (funext fun k => ?_))))
  cases k <;> rfl
theorem noX_rt {d : D} : noX QS (.rt d) δ = QS (.rt d) δ := rfl
theorem noX_nx : noX QS .nx δ = QS .nx δ := rfl
theorem noX_bk : noX QS .bk δ = QS .bk δ := rfl
theorem noX_ct : noX QS .ct δ = QS .ct δ := rfl
theorem hdQ_0 {exm : Nat → Nat → Bool} {x : Xc} : hdQ exm x QS [] δ = QS (.ex x) δ := rfl
theorem hdQ_s {exm : Nat → Nat → Bool} {x : Xc} {c : Nat} {f : DS → Option ES} {r : List (Nat × (DS → Option ES))} : hdQ exm x QS ((c, f) :: r) δ = if exm x.c c = true then Go f δ (noX QS) else hdQ exm x QS r δ := rfl
section
variable {nc : Nat} {exm : Nat → Nat → Bool} {l : List (Nat × (DS → Option ES))} {ci : Nat} {fx : Nat → Option D} {x : Xc} {d : D}
theorem tryQ_ex : tryQ nc exm l QS (.ex x) δ = (x.c < nc ∧ hdQ exm x QS l δ) := rfl
theorem tryQ_rt : tryQ nc exm l QS (.rt d) δ = QS (.rt d) δ := rfl
theorem tryQ_nx : tryQ nc exm l QS .nx δ = QS .nx δ := rfl
theorem tryQ_bk : tryQ nc exm l QS .bk δ = QS .bk δ := rfl
theorem tryQ_ct : tryQ nc exm l QS .ct δ = QS .ct δ := rfl
theorem tasQ_ex : tasQ nc exm ci fx QS (.ex x) δ = (x.c < nc ∧ if exm x.c ci = true then x.fs.isEmpty = true ∧ has (fx x.c) fun d => (sv d).isSome = true ∧ QS (.rt d) δ else QS (.ex x) δ) := rfl
theorem tasQ_rt : tasQ nc exm ci fx QS (.rt d) δ = QS (.rt d) δ := rfl
theorem tasQ_nx : tasQ nc exm ci fx QS .nx δ = QS .nx δ := rfl
theorem tasQ_bk : tasQ nc exm ci fx QS .bk δ = QS .bk δ := rfl
theorem tasQ_ct : tasQ nc exm ci fx QS .ct δ = QS .ct δ := rfl
end
/-- an exception passes a loop -/
theorem kL_ex {k : DS → Prop} {K : ES → Prop} {x : Xc} : kL k K (.ex x) δ = K (.ex x, δ) := rfl
end
section
variable {i : Int} {a : Bool} {z y : Str} {m n : Fl} {xs : List D}
theorem ty_i : tyOf (.int i) = some "int" := rfl
theorem ty_b : tyOf (.bl a) = some "bool" := rfl
theorem ty_s : tyOf (.str z) = some "str" := rfl
theorem ty_t : tyOf (.tup xs) = some "tuple" := rfl
theorem ty_l : tyOf (.lst m xs) = some "list" := rfl
theorem ty_n : tyOf (.non) = some "NoneType" := rfl
theorem is_ii : isT "int" "int" = true := by decide
theorem is_ib : isT "int" "bool" = false := by decide
theorem is_is : isT "int" "str" = false := by decide
theorem is_it : isT "int" "tuple" = false := by decide
theorem is_il : isT "int" "list" = false := by decide
theorem is_bi : isT "bool" "int" = true := by decide
theorem is_bb : isT "bool" "bool" = true := by decide
theorem is_bs : isT "bool" "str" = false := by decide
theorem is_bt : isT "bool" "tuple" = false := by decide
theorem is_bl : isT "bool" "list" = false := by decide
theorem is_si : isT "str" "int" = false := by decide
theorem is_sb : isT "str" "bool" = false := by decide
theorem is_ss : isT "str" "str" = true := by decide
theorem is_st : isT "str" "tuple" = false := by decide
theorem is_sl : isT "str" "list" = false := by decide
theorem is_ti : isT "tuple" "int" = false := by decide
theorem is_tb : isT "tuple" "bool" = false := by decide
theorem is_ts : isT "tuple" "str" = false := by decide
theorem is_tt : isT "tuple" "tuple" = true := by decide
theorem is_tl : isT "tuple" "list" = false := by decide
theorem is_li : isT "list" "int" = false := by decide
theorem is_lb : isT "list" "bool" = false := by decide
theorem is_ls : isT "list" "str" = false := by decide
theorem is_lt : isT "list" "tuple" = false := by decide
theorem is_ll : isT "list" "list" = true := by decide
theorem is_ni : isT "NoneType" "int" = false := by decide
theorem is_nb : isT "NoneType" "bool" = false := by decide
theorem is_ns : isT "NoneType" "str" = false := by decide
theorem is_nt : isT "NoneType" "tuple" = false := by decide
theorem is_nl : isT "NoneType" "list" = false := by decide
/-! texts -/
theorem eqD_s (a b : Str) : eqD (.str a) (.str b) = decide (a = b) := by
  unfold eqD toP
  rw [Bool.eq_iff_iff]
  simp [PyData.eqv]
theorem v_eqS : gEq [.str y, .str z] = some (.bl (decide (y = z))) := by
  show some (D.bl (eqD (.str y) (.str z))) = _
  rw [eqD_s]
theorem v_neS : gNe [.str y, .str z] = some (.bl (!decide (y = z))) := by
  show some (D.bl (!eqD (.str y) (.str z))) = _
  rw [eqD_s]
theorem v_addS (h : y.length + z.length ≤ 16777216) : gAdd [.str y, .str z] = some (.str (y ++ z)) := if_pos h
theorem v_lenS (h : z.length ≤ 16777216) : gLen [.str z] = some (.int z.length) := if_pos h
theorem v_strI (h : i.natAbs < 2 ^ 64) : gStrOf [.int i] = some (.str (toString i)) := by
  refine if_pos ?_
  by_cases h0 : i.natAbs = 0
  · rw [h0]; decide
  · have := (Nat.log2_lt h0).mpr h
    omega
theorem v_inS : gIn [.str y, .str z] = some (.bl (inStr y z)) := rfl
theorem v_notInS : gNotIn [.str y, .str z] = some (.bl (!inStr y z)) := rfl
theorem truD_i : truD (.int i) = some (i != 0) := rfl
theorem truD_n : truD .non = some false := rfl
theorem truD_t : truD (.tup xs) = some (!xs.isEmpty) := rfl
theorem cap_s : cap (.str z) = .str z := rfl
theorem cap_n : cap .non = .non := rfl
theorem cap_b : cap (.bl a) = .bl a := rfl
theorem noL_s : noL (.str z) = true := rfl
theorem its_t : itemsOf (.tup xs) = some xs := rfl
theorem own_t : owned (.tup xs) = false := rfl
theorem own_s : owned (.str z) = false := rfl
theorem its_s : itemsOf (.str z) = some (signs z) := rfl
theorem sv_n : (sv .non).isSome = true := rfl
theorem sv_i : (sv (.int i)).isSome = true := rfl
theorem sv_s : (sv (.str z)).isSome = true := rfl
theorem sv_b : (sv (.bl a)).isSome = true := rfl
theorem isStr_s : isStr (.str z) = true := rfl
theorem isNon_n : isNon .non = true := rfl
theorem isNon_i : isNon (.int i) = false := rfl
theorem isNon_s : isNon (.str z) = false := rfl
theorem isNon_t : isNon (.tup xs) = false := rfl
theorem isNon_l : isNon (.lst m xs) = false := rfl
theorem v_tup : gTuple [.lst m xs] = if shal m then some (.tup xs) else none := rfl
end
/-- a comprehension over any items that changes nothing -/
theorem has_cmpD {tg : D → DS → Option DS} {t : DS → Option EB} {f : DS → Option ER} {vs : List Nat} {δ : DS} (p : D → Bool) (h : D → D) {K : List D × DS → Prop} (xs : List D) (hl : xs.length ≤ 1000000)
    (hh : ∀ d ∈ xs, has (tg d δ) fun δ1 => GE t δ1 fun r δ2 => r = .ok (p d) ∧ if p d = true then (GE f δ2 fun r δ3 => r = .ok (h d) ∧ wipeD vs δ3 = δ) else wipeD vs δ2 = δ)
    (hK : K ((xs.filter p).map fun d => cap (h d), δ)) : has (evCmp tg t f vs xs [] δ) K := by
  rw [cmp_pure xs [] (by simpa using hl) hh, has_some, List.nil_append]
  exact hK
end PD
/-! P, part 34: freezing, told for the simplifier; defs that draw. -/
namespace PD
open PySem L2
section
variable {xs : List D} {i : Int} {a : Bool} {z : Str}
theorem noL_lo : noL (.lst .o xs) = true := rfl
theorem noL_lf : noL (.lst .f xs) = true := rfl
theorem frz_lo : frz (.lst .o xs) = .lst .f xs := rfl
theorem frz_lf : frz (.lst .f xs) = .lst .f xs := rfl
end
end PD
/-! P, part 35: attributes: read, written, lists behind them. -/
namespace PD
open PySem L2

def lkN (k : Nat) : List (Nat × D) → Option D
  | [] => none
  | (j, d) :: r => if j = k then some d else lkN k r
def putN (k : Nat) (d : D) : List (Nat × D) → List (Nat × D)
  | [] => [(k, d)]
  | (j, e) :: r => if j = k then (k, d) :: r else (j, e) :: putN k d r
/-- e.f of an instance of class c -/
def evAttr (c k : Nat) (f : DS → Option ER) : DS → Option ER := fun δ => match f δ with
  | none => none
  | some (.ex x, δ') => some (.ex x, δ')
  | some (.ok d, δ') => match d with
    | .ins _ c' fs => if c' = c then (match lkN k fs with
      | some e => some (.ok e, δ')
      | none => none) else none
    | _ => none
/-- name.f = e -/
def evSetF (i c k : Nat) (f : DS → Option ER) : DS → Option ES := fun δ => match f δ with
  | none => none
  | some (.ex x, δ') => some (.ex x, δ')
  | some (.ok d, δ') => match δ'[i]? with
    | some (some (.ins .oo c' fs)) => if c' = c ∧ fs.length < 1000 then some (.nx, δ'.set i (some (.ins .oo c (putN k d fs)))) else none
    | _ => none
/-- name.f.append(e) -/
def evAppF (i c k : Nat) (f : DS → Option ER) : DS → Option ES := fun δ => match δ[i]? with
  | some (some (.ins .oo c0 fs0)) => if c0 = c then (match lkN k fs0 with
    | some (.lst .o _) => (match f δ with
      | none => none
      | some (.ex x, δ') => some (.ex x, δ')
      | some (.ok d, δ') => match δ'[i]? with
        | some (some (.ins .oo c' fs)) => if c' = c then (match lkN k fs with
          | some (.lst .o xs) => if xs.length < 1000000 then some (.nx, δ'.set i (some (.ins .oo c (putN k (.lst .o (xs ++ [cap d])) fs)))) else none
          | _ => none) else none
        | _ => none)
    | _ => none) else none
  | _ => none

def FldInj (G : GC) : Prop := ∀ i j, G.fld i = G.fld j → i = j
section
variable {G : GC} {W : WX} {X : Cx} {n : Nat} {pn : List Nat}
theorem lk_at (hF : FldInj G) {k : Nat} {d : D} : ∀ {fs : List (Nat × D)} {gs : List (Str × V)}, lkN k fs = some d → fs.map (fun p => G.fld p.1) = gs.map (·.1) → ∃ i w, fs[i]? = some (k, d) ∧ gs[i]? = some (G.fld k, w) ∧ gs.lookup (G.fld k) = some w ∧
    (∀ e, putN k e fs = fs.set i (k, e)) ∧ ∀ y, putF (G.fld k) y gs = gs.set i (G.fld k, y)
  | [], _, h, _ => by cases h
  | (j, e) :: r, [], h, hl => by cases hl
  | (j, e) :: r, (g, w) :: gs, h, hl => by
    rw [List.map_cons, List.map_cons] at hl
    obtain ⟨hg, hl⟩ := List.cons.inj hl
    simp only at hg
    rw [lkN] at h
    by_cases hj : j = k
    · rw [if_pos hj] at h
      subst hj
      cases h
      refine ⟨0, w, rfl, by rw [hg]; rfl, ?_, fun e => ?_, fun y => ?_⟩
      · rw [hg, List.lookup_cons_self]
      · rw [putN, if_pos rfl]; rfl
      · rw [← hg, putF]; simp
    · rw [if_neg hj] at h
      have hne : G.fld k ≠ g := fun q => hj (hF j k (by rw [hg, q]))
      obtain ⟨i, w', h1, h2, h3, h4, h5⟩ := lk_at hF h hl
      refine ⟨i + 1, w', by simpa using h1, by simpa using h2, ?_, fun e => ?_, fun y => ?_⟩
      · rw [List.lookup_cons]
        rw [show (G.fld k == g) = false from by rw [beq_eq_false_iff_ne]; exact hne]
        exact h3
      · rw [putN, if_neg hj, h4]; rfl
      · rw [putF]
        have : ¬ (g = G.fld k) := fun q => hne q.symm
        simp [this, h5]
theorem lk_no (hF : FldInj G) {k : Nat} : ∀ {fs : List (Nat × D)} {gs : List (Str × V)}, lkN k fs = none → fs.map (fun p => G.fld p.1) = gs.map (·.1) → (∀ e, putN k e fs = fs ++ [(k, e)]) ∧ ∀ y, putF (G.fld k) y gs = gs ++ [(G.fld k, y)]
  | [], [], _, _ => ⟨fun _ => rfl, fun _ => rfl⟩
  | [], _ :: _, _, hl => by cases hl
  | (j, e) :: r, [], h, hl => by cases hl
  | (j, e) :: r, (g, w) :: gs, h, hl => by
    rw [List.map_cons, List.map_cons] at hl
    obtain ⟨hg, hl⟩ := List.cons.inj hl
    simp only at hg
    rw [lkN] at h
    by_cases hj : j = k
    · rw [if_pos hj] at h; cases h
    · rw [if_neg hj] at h
      have hne : ¬ (g = G.fld k) := fun q => hj (hF j k (by rw [hg, q]))
      obtain ⟨h4, h5⟩ := lk_no hF h hl
      exact ⟨fun e => by rw [putN, if_neg hj, h4]; rfl, fun y => by rw [putF]; simp [hne, h5]⟩
/-- an instance in the heap -/
theorem Rep.insV {Z S : AS} {H : Hp} {m : Fl} {c : Nat} {fs : List (Nat × D)} {v : V} {A : AS} (r : Rep G Z S H (.ins m c fs) v A) : ∃ a dx gs, v = .ref a ∧ H a = some (.ins (G.cls c) dx gs) ∧ fs.map (fun p => G.fld p.1) = gs.map (·.1) ∧
    ∀ (i : Nat) p q, fs[i]? = some p → gs[i]? = some q → ∃ B, Rep G Z S H p.2 q.2 B ∧ ∀ x, B x → A x := by
  cases r with
  | fz h hA =>
    cases h with
    | ins z h hl he => exact ⟨_, _, _, rfl, h, hl, fun i p q e1 e2 => ⟨S0, .fz (he i p q e1 e2) fun x z => z, fun x z => z.elim⟩⟩
  | ioo B h hl he hd hn ho hA => exact ⟨_, _, _, rfl, h, hl, fun i p q e1 e2 => ⟨B i, he i p q e1 e2, fun x z => (hA x).mpr (.inr ⟨i, z⟩)⟩⟩
  | ill s h hl he hA => exact ⟨_, _, _, rfl, h, hl, fun i p q e1 e2 => ⟨S0, he i p q e1 e2, fun x z => z.elim⟩⟩
theorem rd_attr {qt : Bool} {c k : Nat} {f : DS → Option ER} {te : TE} (hF : FldInj G) (hc : Cls G.K (G.cls c)) (hn : NoAttr G.K (G.cls c) (G.fld k)) (ha : ∀ σ H Q, rdE G W true qt f σ H Q → te σ H Q) : ∀ σ H Q, rdE G W true qt (evAttr c k f) σ H Q → tFld G.K te (G.fld k) σ H Q := by
  rintro σ H Q ⟨δ, Z, S, FS, sr, ⟨w, hf⟩, ok, ex⟩
  unfold evAttr at hf ok ex
  refine ha σ H _ ⟨δ, Z, S, FS, sr, ?_, fun d δ' h v H' Z' FS' A p => ?_, fun x δ' h => ?_⟩
  · cases q : f δ with
    | none => rw [q] at hf; cases hf
    | some w => exact ⟨w, rfl⟩
  · rw [h] at hf ok ex
    cases d with
    | ins m c' fs =>
      simp only at hf ok ex
      by_cases hcc : c' = c
      · rw [if_pos hcc] at hf ok ex
        subst hcc
        cases hk : lkN k fs with
        | none => rw [hk] at hf; cases hf
        | some e =>
          rw [hk] at hf ok ex
          have vl := p.vl
          rw [if_pos rfl] at vl
          obtain ⟨a, dx, gs, rfl, hh, hl, he⟩ := vl.1.insV
          obtain ⟨i, w, h1, h2, h3, _, _⟩ := lk_at hF hk hl
          obtain ⟨B, rB, hB⟩ := he i _ _ h1 h2
          refine ⟨a, _, dx, gs, w, rfl, hh, hc, hn, h3, ok e δ' rfl w H' Z' FS' B ⟨p.sr, p.st.sub fun x z => z.imp id (hB x), ?_, p.qq⟩⟩
          rw [if_pos rfl]
          exact ⟨rB, fun x z => vl.2 x (hB x z)⟩
      · rw [if_neg hcc] at hf; cases hf
    | _ => cases hf
  · rw [h] at ex
    exact ex x δ' rfl
/-- what slot i holds is written, with things of nobody taken in -/
theorem SR.write2 {Z : AS} {S : Nat → AS} {H : Hp} {δ : DS} {σ : St} {FS : Nat → AS} {i : Nat} {a : Addr} {o : HO} {v : V} {d' : D} {B T : AS} (r : SR G Z S H δ σ FS) (ev : σ[i]? = some (some v)) (ha : FS i a) (hil : i < δ.length) (rp : Rep G Z (S i) (upd H a o) d' v B) (hB : ∀ x, B x → FS i x ∨ T x) (hT : ∀ x, T x → ¬ Z x ∧ ¬ Own S x ∧ ¬ Own FS x) :
    SR G Z S (upd H a o) (δ.set i (some d')) σ (fun j x => (j = i ∧ B x) ∨ (j ≠ i ∧ FS j x)) ∧ Step H Z (fun x => Own FS x ∨ T x) (upd H a o) Z (Own fun j x => (j = i ∧ B x) ∨ (j ≠ i ∧ FS j x)) := by
  have nz := r.nz a ⟨i, ha⟩
  have own : ∀ x, Own (fun j x => (j = i ∧ B x) ∨ (j ≠ i ∧ FS j x)) x → Own FS x ∨ T x := fun x ⟨j, q⟩ => q.elim (fun z => (hB x z.2).imp (fun q => ⟨i, q⟩) id) fun z => .inl ⟨j, z.2⟩
  have there : ∀ x u, H x = some u → ∃ u', upd H a o x = some u' := fun x u e => by
    by_cases h : x = a
    · rw [h]; exact ⟨_, upd_same⟩
    · rw [upd_ne h]; exact ⟨_, e⟩
  refine ⟨⟨by rw [List.length_set]; exact r.len, fun j w ew => ?_, fun j h x q => ?_, fun j k x a b => ?_, fun b z => ?_, fun b z => ?_, fun x z => ?_⟩, ⟨fun x u e q => ?_, there, fun _ z => z, fun _ z => .inl z, fun x z => .inl (own x z)⟩⟩
  · rcases set_at ew with ⟨hj, ew2⟩ | ⟨hj, ew2⟩
    · cases ew2
      subst hj
      exact ⟨v, ev, rp.congr fun x => ⟨fun q => q.elim (fun z => z.2) fun z => (z.1 rfl).elim, fun q => .inl ⟨rfl, q⟩⟩⟩
    · obtain ⟨u, eu, rp'⟩ := r.slot j w ew2
      refine ⟨u, eu, (rp'.mono (fun _ z => z) (fun _ z => z) fun b z o' e => ?_).congr fun x => ⟨fun q => q.elim (fun z => (hj z.1).elim) fun z => z.2, fun q => .inr ⟨hj, q⟩⟩⟩
      rw [upd_ne]; exact e
      rintro rfl
      rcases z with z | z | z
      · exact nz.1 z
      · exact nz.2 ⟨j, z⟩
      · exact hj (r.disj j i _ z ha)
  · rcases q with ⟨hj, q⟩ | ⟨hj, q⟩
    · subst hj
      exact h d' (by rw [List.getElem?_set_self hil])
    · refine r.empt j (fun w ew => h w ?_) x q
      rw [List.getElem?_set_ne (Ne.symm hj)]; exact ew
  · rcases a with ⟨hj, a⟩ | ⟨hj, a⟩ <;> rcases b with ⟨hk, b⟩ | ⟨hk, b⟩
    · rw [hj, hk]
    · rcases hB x a with a | a
      · exact (hk (r.disj k i x b a)).elim
      · exact ((hT x a).2.2 ⟨k, b⟩).elim
    · rcases hB x b with b | b
      · exact (hj (r.disj j i x a b)).elim
      · exact ((hT x b).2.2 ⟨j, a⟩).elim
    · exact r.disj j k x a b
  · obtain ⟨u, e⟩ := r.zs b z; exact there b u e
  · obtain ⟨u, e⟩ := r.ss b z; exact there b u e
  · rcases own x z with z | z
    · exact r.nz x z
    · exact ⟨(hT x z).1, (hT x z).2.1⟩
  · rw [upd_ne]; exact e
    rintro rfl
    exact q (.inl ⟨i, ha⟩)
/-- an owned instance in slot i -/
theorem SR.insO {Z : AS} {S : Nat → AS} {H : Hp} {δ : DS} {σ : St} {FS : Nat → AS} {i c : Nat} {fs : List (Nat × D)} (r : SR G Z S H δ σ FS) (e : δ[i]? = some (some (.ins .oo c fs))) : ∃ (a dx : Addr) (gs : List (Str × V)) (B : Nat → AS), σ[i]? = some (some (.ref a)) ∧ H a = some (.ins (G.cls c) dx gs) ∧ fs.map (fun p => G.fld p.1) = gs.map (·.1) ∧
    (∀ (j : Nat) p q, fs[j]? = some p → gs[j]? = some q → Rep G Z (S i) H p.2 q.2 (B j)) ∧ (∀ j l x, B j x → B l x → j = l) ∧ (∀ j, ¬ B j a) ∧ (∀ j x, B j x → j < fs.length) ∧ ∀ x, FS i x ↔ (x = a ∨ ∃ j, B j x) := by
  obtain ⟨v, ev, rp⟩ := r.slot i _ e
  cases rp with
  | fz h _ => exact absurd (show false = true from frz_of h) Bool.false_ne_true
  | ioo B h hl he hd hn ho hA => exact ⟨_, _, _, B, ev, h, hl, he, hd, hn, ho, hA⟩
end
end PD
/-! P, part 36: the readings of attributes written. -/
namespace PD
open PySem L2
section
variable {G : GC} {W : WX} {X : Cx} {n : Nat} {pn : List Nat}
/-- an attribute gets a value that nobody else holds -/
theorem insPut {Z S : AS} {H : Hp} {a dx : Addr} {c k : Nat} {fs : List (Nat × D)} {gs : List (Str × V)} {B : Nat → AS} {d : D} {v : V} {A : AS} (hF : FldInj G) (hl : fs.map (fun p => G.fld p.1) = gs.map (·.1)) (he : ∀ (j : Nat) p q, fs[j]? = some p → gs[j]? = some q → Rep G Z S H p.2 q.2 (B j)) (hd : ∀ j l x, B j x → B l x → j = l) (hna : ∀ j, ¬ B j a) (ho : ∀ j x, B j x → j < fs.length)
    (rd : Rep G Z S H d v A) (nA : ∀ x, A x → ¬ (x = a ∨ ∃ j, B j x)) (nZ : ¬ Z a) (nS : ¬ S a) :
    ∃ B2 : Nat → AS, Rep G Z S (upd H a (.ins (G.cls c) dx (putF (G.fld k) v gs))) (.ins .oo c (putN k d fs)) (.ref a) (fun x => x = a ∨ ∃ l, B2 l x) ∧ ∀ l x, B2 l x → A x ∨ ∃ m, B m x := by
  have len : fs.length = gs.length := by simpa using congrArg List.length hl
  have key : ∀ (j : Nat) (fs' : List (Nat × D)) (gs' : List (Str × V)), (∀ l, l ≠ j → fs'[l]? = fs[l]? ∧ gs'[l]? = gs[l]?) → fs'[j]? = some (k, d) → gs'[j]? = some (G.fld k, v) → j < fs'.length → fs.length ≤ fs'.length → fs'.map (fun p => G.fld p.1) = gs'.map (·.1) →
      ∃ B2 : Nat → AS, Rep G Z S (upd H a (.ins (G.cls c) dx gs')) (.ins .oo c fs') (.ref a) (fun x => x = a ∨ ∃ l, B2 l x) ∧ ∀ l x, B2 l x → A x ∨ ∃ m, B m x := by
    intro j fs' gs' same hj1 hj2 hlt hle hl'
    have nAa : ¬ A a := fun z => nA a z (.inl rfl)
    have ne : ∀ x, (Z x ∨ S x) → x ≠ a := fun x z q => by subst q; exact z.elim nZ nS
    refine ⟨fun l x => (l = j ∧ A x) ∨ (l ≠ j ∧ B l x), .ioo (fun l x => (l = j ∧ A x) ∨ (l ≠ j ∧ B l x)) upd_same hl' (fun l p q e1 e2 => ?_) (fun l m x z1 z2 => ?_) (fun l z => ?_) (fun l x z => ?_) fun _ => Iff.rfl, fun l x z => z.elim (fun z => .inl z.2) fun z => .inr ⟨l, z.2⟩⟩
    · by_cases hlj : l = j
      · subst hlj
        rw [hj1] at e1
        rw [hj2] at e2
        cases e1; cases e2
        refine (rd.mono (fun _ z => z) (fun _ z => z) fun x z o e => ?_).congr fun x => ⟨fun z => z.elim (fun z => z.2) fun z => (z.1 rfl).elim, fun z => .inl ⟨rfl, z⟩⟩
        rw [upd_ne]; exact e
        rintro rfl
        exact z.elim nZ fun z => z.elim nS nAa
      · rw [(same l hlj).1] at e1
        rw [(same l hlj).2] at e2
        refine ((he l p q e1 e2).mono (fun _ z => z) (fun _ z => z) fun x z o e => ?_).congr fun x => ⟨fun z => z.elim (fun z => (hlj z.1).elim) fun z => z.2, fun z => .inr ⟨hlj, z⟩⟩
        rw [upd_ne]; exact e
        rintro rfl
        exact z.elim nZ fun z => z.elim nS (hna l)
    · rcases z1 with ⟨h1, z1⟩ | ⟨h1, z1⟩ <;> rcases z2 with ⟨h2, z2⟩ | ⟨h2, z2⟩
      · rw [h1, h2]
      · exact (nA x z1 (.inr ⟨m, z2⟩)).elim
      · exact (nA x z2 (.inr ⟨l, z1⟩)).elim
      · exact hd l m x z1 z2
    · rcases z with ⟨_, z⟩ | ⟨_, z⟩
      · exact nAa z
      · exact hna l z
    · rcases z with ⟨h, _⟩ | ⟨_, z⟩
      · rw [h]; exact hlt
      · exact Nat.lt_of_lt_of_le (ho l x z) hle
  cases hk : lkN k fs with
  | some e =>
    obtain ⟨j, w, h1, h2, _, hp, hq⟩ := lk_at hF hk hl
    have j1 : j < fs.length := (List.getElem?_eq_some_iff.mp h1).1
    have j2 : j < gs.length := len ▸ j1
    rw [hp, hq]
    refine key j _ _ (fun l hlj => ⟨List.getElem?_set_ne (Ne.symm hlj), List.getElem?_set_ne (Ne.symm hlj)⟩) (List.getElem?_set_self j1) (List.getElem?_set_self j2) (by simpa using j1) (by simp) ?_
    rw [List.map_set, List.map_set, hl]
  | none =>
    obtain ⟨hp, hq⟩ := lk_no hF hk hl
    rw [hp, hq]
    refine key fs.length _ _ (fun l hlj => ?_) (by simp) (by simp [len]) (by simp) (by simp) (by simp [hl])
    rcases Nat.lt_trichotomy l fs.length with h | h | h
    · exact ⟨List.getElem?_append_left h, List.getElem?_append_left (by omega)⟩
    · exact (hlj h).elim
    · exact ⟨by rw [List.getElem?_eq_none (by simp; omega), List.getElem?_eq_none (by omega)], by rw [List.getElem?_eq_none (by simp; omega), List.getElem?_eq_none (by omega)]⟩
theorem rd_setF {qt : Bool} {i c k : Nat} {f : DS → Option ER} {te : TE} (hF : FldInj G) (hc : Cls G.K (G.cls c)) (hn : NoAttr G.K (G.cls c) (G.fld k)) (ha : ∀ σ H Q, rdE G W false qt f σ H Q → te σ H Q) : ∀ D σ H, rdS G W n pn (evSetF i c k f) D σ H → sFld G.K (tVar i) te (G.fld k) D σ H := by
  rintro D σ H ⟨hn', δ, Z, S, FS, sr, r, hr, w⟩
  unfold evSetF at hr
  refine ha σ H _ ⟨δ, Z, S, FS, sr, ?_, fun d δ' h v H' Z' FS' A p => ?_, fun x δ' h c dd H' Z' FS' p => ?_⟩
  · cases q : f δ with
    | none => rw [q] at hr; cases hr
    | some w => exact ⟨w, rfl⟩
  · rw [h] at hr
    simp only at hr
    split at hr
    · rename_i c' fs e1
      split at hr
      · rename_i hz
        cases hr
        obtain ⟨a, dx, gs, B, ev, hh, hl, he, hd, hna, ho, hA⟩ := p.sr.insO e1
        rw [hz.1] at hh
        have vl := p.vl
        rw [if_neg Bool.false_ne_true] at vl
        have ia : FS' i a := (hA a).mpr (.inl rfl)
        have nz := p.sr.nz a ⟨i, ia⟩
        have hil : i < δ'.length := (List.getElem?_eq_some_iff.mp e1).1
        have len : fs.length = gs.length := by simpa using congrArg List.length hl
        obtain ⟨B2, rp, hB2⟩ := insPut (c := c) (dx := dx) (k := k) hF hl he hd hna ho vl.1.s0 (fun x z q => (vl.2 x z).2.2 ⟨i, (hA x).mpr q⟩) nz.1 fun z => nz.2 ⟨i, z⟩
        obtain ⟨sr2, st2⟩ := p.sr.write2 (T := A) ev ia hil rp (fun x z => by
          rcases z with z | ⟨l, z⟩
          · exact .inl (by rw [z]; exact ia)
          · exact (hB2 l x z).elim .inr fun ⟨m, z⟩ => .inl ((hA x).mpr (.inr ⟨m, z⟩))) vl.2
        refine ⟨.ref a, ev, a, _, dx, gs, rfl, hh, hc, hn, by rw [← len]; exact hz.2, ?_⟩
        exact w.nx _ rfl σ _ _ _ ⟨sr2, p.st.trans st2, Pin.refl _ _⟩
      · cases hr
    · cases hr
  · rw [h] at hr; cases hr
    exact w.ex x _ rfl c dd σ H' Z' FS' p.q
/-- a value that is got without a change to what there is -/
def rdEh (G : GC) (W : WX) (f : DS → Option ER) : TE := fun σ H Q => ∃ δ Z S FS, SR G Z S H δ σ FS ∧ (∃ r, f δ = some r) ∧
  (∀ d δ', f δ = some (.ok d, δ') → ∀ v H' Z' FS' A, PostE G S false false σ H Z FS d δ' v H' Z' FS' A → Same H H' → Q v H') ∧
  (∀ x δ', f δ = some (.ex x, δ') → ∀ c dd H' Z' FS', PostX G S σ H Z FS x δ' c dd H' Z' FS' → W c dd σ H')
theorem rd_hq {f : DS → Option ER} {te : TE} (ha : ∀ σ H Q, rdE G W false true f σ H Q → te σ H Q) : ∀ σ H Q, rdEh G W f σ H Q → te σ H Q := fun σ H Q ⟨δ, Z, S, FS, sr, h, ok, ex⟩ =>
  ha σ H Q ⟨δ, Z, S, FS, sr, h, fun d δ' e v H' Z' FS' A p => ok d δ' e v H' Z' FS' A ⟨p.sr, p.st, p.vl, fun z => Bool.noConfusion z⟩ (p.qq rfl).2, ex⟩
theorem rd_hv {i : Nat} : ∀ σ H Q, rdEh G W (evFv i) σ H Q → tVar i σ H Q := by
  rintro σ H Q ⟨δ, Z, S, FS, sr, ⟨r, hr⟩, ok, -⟩
  unfold evFv at hr ok
  cases e : δ[i]? with
  | none => rw [e] at hr; cases hr
  | some q =>
    cases q with
    | none => rw [e] at hr; cases hr
    | some d =>
      simp only [e] at hr ok
      obtain ⟨v, ev, rp⟩ := sr.slot i d e
      by_cases hF : isF d = true
      · rw [if_pos hF] at ok
        obtain ⟨rf, nA⟩ := rp.frozen hF
        refine ⟨v, ev, ok d δ rfl v H Z FS S0 ⟨sr, Step.quiet fun x h => h.elim, ?_, fun q => absurd q Bool.false_ne_true⟩ fun _ _ e => e⟩
        rw [if_neg Bool.false_ne_true]
        exact ⟨.fz rf fun _ h => h, fun x h => h.elim⟩
      · rw [if_neg hF] at hr ok
        by_cases hN : noL d = true
        · rw [if_pos hN] at ok
          have rf := (rp.noL hN).freeze
          refine ⟨v, ev, ok (frz d) _ rfl v H _ _ S0 ⟨sr.freeze e ev rf, ?_, ?_, fun q => absurd q Bool.false_ne_true⟩ fun _ _ e => e⟩
          · exact ⟨fun a o e _ => e, fun a o e => ⟨o, e⟩, fun a z => .inl z, fun a z => z.imp id fun q => .inl ⟨i, q⟩, fun a z => z.elim (fun ⟨j, _, q⟩ => .inl ⟨j, q⟩) fun q => q.elim⟩
          · rw [if_neg Bool.false_ne_true]
            exact ⟨.fz rf fun _ h => h, fun x h => h.elim⟩
        · rw [if_neg hN] at hr; cases hr
/-- an owned list behind an attribute of slot i -/
theorem SR.fldL {Z : AS} {S : Nat → AS} {H : Hp} {δ : DS} {σ : St} {FS : Nat → AS} {i c k : Nat} {fs : List (Nat × D)} {xs : List D} (hF : FldInj G) (r : SR G Z S H δ σ FS) (e : δ[i]? = some (some (.ins .oo c fs))) (hk : lkN k fs = some (.lst .o xs)) : ∃ (a dx : Addr) (gs : List (Str × V)) (b : Addr) (vs : List V), σ[i]? = some (some (.ref a)) ∧ H a = some (.ins (G.cls c) dx gs) ∧ gs.lookup (G.fld k) = some (.ref b) ∧ H b = some (.lst vs) ∧ xs.length = vs.length ∧
    (∀ (j : Nat) d w, xs[j]? = some d → vs[j]? = some w → RepF G Z H d w) ∧ FS i b ∧
    ∀ (ys : List D) (us : List V) (Z2 : AS) (H2 : Hp), (∀ x, Z x → Z2 x) → (∀ x, Z2 x → ¬ FS i x) → (∀ x o, H x = some o → H2 x = some o) → ys.length = us.length → (∀ (j : Nat) d w, ys[j]? = some d → us[j]? = some w → RepF G Z2 H2 d w) →
      Rep G Z2 (S i) (upd H2 b (.lst us)) (.ins .oo c (putN k (.lst .o ys) fs)) (.ref a) (FS i) := by
  obtain ⟨a, dx, gs, B, ev, hh, hl, he, hd, hna, ho, hA⟩ := r.insO e
  obtain ⟨j, w, h1, h2, h3, hp, hq⟩ := lk_at hF hk hl
  have rp := he j _ _ h1 h2
  cases rp with
  | fz h _ => exact absurd (show false = true from frz_of h) Bool.false_ne_true
  | @lo b _ vs _ hb hlb heb hAb =>
    have jb : B j b := (hAb b).mpr rfl
    have ib : FS i b := (hA b).mpr (.inr ⟨j, jb⟩)
    have nb : a ≠ b := fun q => hna j (by rw [q]; exact jb)
    have nS := (r.nz b ⟨i, ib⟩).2
    refine ⟨a, dx, gs, b, vs, ev, hh, h3, hb, hlb, heb, ib, fun ys us Z2 H2 hz hz2 hk2 hyl hye => ?_⟩
    have j1 : j < fs.length := (List.getElem?_eq_some_iff.mp h1).1
    rw [hp]
    refine .ioo B (by rw [upd_ne nb]; exact hk2 _ _ hh) (dx := dx) (ws := gs) ?_ (fun l p q e1 e2 => ?_) hd hna (fun l x z => by simpa using ho l x z) hA
    · rw [List.map_set, hl]
      refine List.ext_getElem? fun m => ?_
      by_cases hm : m = j
      · subst hm
        have : m < (gs.map (·.1)).length := by rw [← hl]; simpa using j1
        rw [List.getElem?_set_self this, List.getElem?_map, h2]
        rfl
      · rw [List.getElem?_set_ne (Ne.symm hm)]
    · by_cases hlj : l = j
      · subst hlj
        rw [List.getElem?_set_self j1] at e1
        rw [h2] at e2
        cases e1; cases e2
        refine .lo upd_same hyl (fun m d w e1 e2 => (hye m d w e1 e2).mono (fun _ z => z) fun x z o e => ?_) hAb
        rw [upd_ne]; exact e
        rintro rfl
        exact hz2 _ z ib
      · rw [List.getElem?_set_ne (Ne.symm hlj)] at e1
        refine (he l p q e1 e2).mono hz (fun _ z => z) fun x z o e => ?_
        rw [upd_ne]; exact hk2 _ _ e
        rintro rfl
        rcases z with z | z | z
        · exact hz2 _ (hz _ z) ib
        · exact nS ⟨i, z⟩
        · exact hlj (hd l j _ z jb)
theorem rd_appF {i c k : Nat} {f : DS → Option ER} {te : TE} (hF : FldInj G) (hc : Cls G.K (G.cls c)) (hn : NoAttr G.K (G.cls c) (G.fld k)) (ha : ∀ σ H Q, rdEh G W f σ H Q → te σ H Q) : ∀ D σ H, rdS G W n pn (evAppF i c k f) D σ H → tDrop (tBM G.K "list" rAppend (tFld G.K (tVar i) (G.fld k)) (tCons te tNil)) D σ H := by
  rintro D σ H ⟨hn', δ, Z, S, FS, sr, r, hr, w⟩
  unfold evAppF at hr
  split at hr
  · rename_i c0 fs0 e0
    split at hr
    · rename_i hc0
      split at hr
      · rename_i xs0 hk0
        obtain ⟨a, dx, gs, b, vs0, ev, hh, hlk, hb, _⟩ := sr.fldL hF e0 hk0
        rw [hc0] at hh
        refine ⟨.ref a, ev, a, _, dx, gs, .ref b, rfl, hh, hc, hn, hlk, .inl ⟨rfl, _, .inl (.inl hb)⟩, ?_⟩
        refine ha σ H _ ⟨δ, Z, S, FS, sr, ?_, fun d δ' h v H' Z' FS' A p sm => ?_, fun x δ' h c dd H' Z' FS' p => ?_⟩
        · cases q : f δ with
          | none => rw [q] at hr; cases hr
          | some w => exact ⟨w, rfl⟩
        · rw [h] at hr
          simp only at hr
          split at hr
          · rename_i c1 fs e1
            split at hr
            · rename_i hc1
              split at hr
              · rename_i xs hk1
                split at hr
                · rename_i hz
                  cases hr
                  obtain ⟨rf, srC, stC⟩ := p.cap
                  obtain ⟨a', dx', gs', b', vs, ev', hh', hlk', hb', hl, he, ib, mk⟩ := srC.fldL hF e1 hk1
                  rw [ev] at ev'
                  cases ev'
                  rw [hc1, sm _ _ hh] at hh'
                  cases hh'
                  rw [hlk] at hlk'
                  cases hlk'
                  have nz := srC.nz
                  have hil : i < δ'.length := (List.getElem?_eq_some_iff.mp e1).1
                  have rp := mk (xs ++ [cap d]) (vs ++ [v]) _ H' (fun _ z => z) (fun x z q => (nz x ⟨i, q⟩).1 z) (fun _ _ e => e) (by simp [hl]) (app_at hl he fun j x y e1 e2 => by
                    cases j with
                    | zero => simp at e1 e2; subst e1 e2; exact rf
                    | succ j => simp at e1)
                  rw [hc1] at rp
                  obtain ⟨sr2, st2⟩ := srC.write ev ib hil rp fun x q => q
                  refine ⟨b, vs, v, rfl, rfl, hb', by rw [← hl, sizeLine_eq]; omega, ?_⟩
                  exact w.nx _ rfl σ _ _ _ ⟨sr2, stC.trans st2, Pin.refl _ _⟩
                · cases hr
              · cases hr
            · cases hr
          · cases hr
        · rw [h] at hr; cases hr
          exact w.ex x _ rfl c dd σ H' Z' FS' p.q
      · cases hr
    · cases hr
  · cases hr
end
end PD
/-! P, part 37: methods, instances made. -/
namespace PD
open PySem L2 PySem.Spec

/-! rules of the hand layer, with what is raised wished for at the caller's slots -/
section
variable {X : Cx} {CX : CXT} {k : Nat} {f C : Addr} {fd : FuncData} {ps : List Str} {sp : Sp} {dvs : List V} {ds : List Value} {E : St → XK} {x m : Str} {p pos apos : Pos} {e o : Expr} {es : List Expr} {ta : TE} {t : TA}
def tMethSD (C : Addr) (m : Str) (sp : Sp) (dvs : List V) (E : St → XK) (ta : TE) (t : TA) : TE := fun σ H Q => ta σ H fun x H1 => ∃ a dx fs, x = .ref a ∧ H1 a = some (.ins C dx fs) ∧ fs.lookup m = none ∧ t σ H1 fun vs H2 => sp (x :: (vs ++ dvs)) H2 Q (E σ)
def tMakeSD (C : Addr) (sp : Sp) (dvs : List V) (E : St → XK) (t : TA) : TE := fun σ H Q => t σ H fun vs H1 => ∀ x dx, H1 x = none → H1 dx = none → dx ≠ x →
  sp (.ref x :: (vs ++ dvs)) (upd (upd H1 dx (.own x)) x (.ins C dx [])) (fun v H2 => v = .non ∧ Q (.ref x) H2) (E σ)
theorem pe_methSD {pl : Sem Bool} (he : PE X o ta) (c : Cls X.K C) (hm : Meth X.K C m f) (F : FnOk X.prog X.w X.K X.mg X.base CX k f fd ps sp) (hr : Room k X.A) (hb : Binds X.K fd ps ds) (hd : Vals dvs ds) (hx : ∀ σ, PassesAt CX X σ (E σ)) (ha : PA X (e :: es) t)
    (hst : starEach (e :: es) X.env = (false, eval e X.env) :: starEach es X.env) (hpl : (backTo pos (starEach es X.env)).any (·.1) = false)
    (ht : eval (.Call (.Attribute o m apos) (e :: es) [] pos) X.env = (do
      let ov ← eval o X.env
      standAt apos.atName
      let (f, first) ← holding [ov] (getMethod ov m pl)
      callWith pos f first (backTo pos (starEach (e :: es) X.env)) (backToKw pos (keywordEach [] X.env)))) :
    PE X (.Call (.Attribute o m apos) (e :: es) [] pos) (tMethSD C m sp dvs E ta t) := by
  refine ⟨fun pins s σ H Q I h => ?_⟩
  refine PySem.W.methodCall_KW (pl := pl) (thn (he.run pins s σ H _ I h) fun u s1 ⟨x, H1, I1, rx, a, dx, fs, ex, ea, l, q⟩ => ?_) ht
  subst ex
  obtain rfl : u = Value.ref a := rx
  refine getmeth_ok I1 ea c hm l ?_
  refine PySem.W.callWith_K (first := [.ref a]) (h₀ := X.base) I.ok.mod.kin hm.kp (thn (ha.run pos pins s1 σ H1 _ I1 q) fun us s2 ⟨vs, H2, I2, r, q2⟩ => ⟨I2.kIn, ?_⟩) hst hpl
  exact run_fnSD (us := .ref a :: us) (vs := .ref a :: vs) F hr hb hd (hx σ) I2 (.cons rfl r) q2
theorem pe_meth0SD {pl : Sem Bool} (he : PE X o ta) (c : Cls X.K C) (hm : Meth X.K C m f) (F : FnOk X.prog X.w X.K X.mg X.base CX k f fd ps sp) (hr : Room k X.A) (hb : Binds X.K fd ps ds) (hd : Vals dvs ds) (hx : ∀ σ, PassesAt CX X σ (E σ))
    (ht : eval (.Call (.Attribute o m apos) [] [] pos) X.env = (do
      let ov ← eval o X.env
      standAt apos.atName
      let (f, first) ← holding [ov] (getMethod ov m pl)
      callWith pos f first (backTo pos (starEach [] X.env)) (backToKw pos (keywordEach [] X.env)))) :
    PE X (.Call (.Attribute o m apos) [] [] pos) (tMethSD C m sp dvs E ta tNil) := by
  refine ⟨fun pins s σ H Q I h => ?_⟩
  refine PySem.W.methodCall_KW (pl := pl) (thn (he.run pins s σ H _ I h) fun u s1 ⟨x, H1, I1, rx, a, dx, fs, ex, ea, l, q⟩ => ?_) ht
  subst ex
  obtain rfl : u = Value.ref a := rx
  refine getmeth_ok I1 ea c hm l ?_
  exact PySem.W.callWith_K0 (first := [.ref a]) I1.kIn hm.kp (run_fnSD (us := [.ref a]) (vs := [.ref a]) F hr hb hd (hx σ) I1 (.cons rfl .nil) q)
theorem run_makeSD {pins : List (Addr × Obj)} {σ : St} {H : Hp} {s : Shared} {Q : VK} {us : List Value} {vs : List V} (M : Mk X.K C f) (F : FnOk X.prog X.w X.K X.mg X.base CX k f fd ps sp) (hr : Room (k + 1) X.A) (hb : Binds X.K fd ps ds) (hd : Vals dvs ds)
    (hx : PassesAt CX X σ (E σ)) (I : Inv X pins σ H s) (r : Vals vs us)
    (h : ∀ x dx, H x = none → H dx = none → dx ≠ x → sp (.ref x :: (vs ++ dvs)) (upd (upd H dx (.own x)) x (.ins C dx [])) (fun v H2 => v = .non ∧ Q (.ref x) H2) (E σ)) :
    wpAny (model X.prog X.w) X.A (call (.ref C) us) (EP X pins σ Q) X.xe s := by
  have hq := h (s.heap.objs.size + 1) s.heap.objs.size (I.hok.fresh (Nat.le_succ _)) (I.hok.fresh (Nat.le_refl _)) (Nat.ne_of_lt (Nat.lt_succ_self _))
  have I2 := Inv.made (C := C) I
  have r2 : Vals (V.ref (s.heap.objs.size + 1) :: (vs ++ dvs)) (Value.ref (s.heap.objs.size + 1) :: (us ++ ds)) := .cons rfl (r.append hd)
  have hl : (Value.ref (s.heap.objs.size + 1) :: us ++ ds).length = ps.length := by
    have e := r2.length
    rw [F.len _ _ _ _ hq] at e
    exact e.symm
  refine wpAny_call (make_map (f := f) I.kIn M.makes M.init (beq_iff_eq.mp M.fn) (codeAny_mono (F.run _ X.stack _ _ ⟨Value.ref (s.heap.objs.size + 1) :: us, []⟩ (Value.ref (s.heap.objs.size + 1) :: (us ++ ds)) _ _ (E σ) (hr.make C us [])
    (I2.env0.make C us []) (hb _ (Value.ref (s.heap.objs.size + 1) :: us) I2.kIn hl) r2 hq) fun r s' hq' => ?_))
  cases r with
  | error e => exact hx pins _ _ e s' I2 hq'
  | ok fl =>
    cases fl with
    | ret u =>
      obtain ⟨v, H', I3, rv, ev, q3⟩ := I2.after hq'
      subst ev
      exact ⟨rv, ⟨V.ref (s.heap.objs.size + 1), H', I3, rfl, q3⟩⟩
    | next => exact False.elim hq'
    | brk => exact False.elim hq'
    | cont => exact False.elim hq'
theorem pe_makeSD (M : Mk X.K C f) (F : FnOk X.prog X.w X.K X.mg X.base CX k f fd ps sp) (hr : Room (k + 1) X.A) (hg : Gl X x) (hm : X.mg x = some (.ref C)) (hb : Binds X.K fd ps ds) (hd : Vals dvs ds) (hx : ∀ σ, PassesAt CX X σ (E σ))
    (ha : PA X (e :: es) t) (hdb : (x == ("__debug__" : Str)) = false) (he : starEach (e :: es) X.env = (false, eval e X.env) :: starEach es X.env) (hpl : (backTo pos (starEach es X.env)).any (·.1) = false) :
    PE X (.Call (.Name x p) (e :: es) [] pos) (tMakeSD C sp dvs E t) := by
  refine ⟨fun pins s σ H Q I h => ?_⟩
  refine wpAny_Call_Name_kw (ld_glob I hg hm ?_ hdb)
  refine PySem.W.callWith_K (h₀ := X.base) I.ok.mod.kin M.kp (thn (ha.run pos pins s σ H _ I h) fun us s1 ⟨vs, H1, I1, r, q⟩ => ⟨I1.kIn, ?_⟩) he hpl
  exact run_makeSD M F hr hb hd (hx σ) I1 r q
theorem pe_make0SD (M : Mk X.K C f) (F : FnOk X.prog X.w X.K X.mg X.base CX k f fd ps sp) (hr : Room (k + 1) X.A) (hg : Gl X x) (hm : X.mg x = some (.ref C)) (hb : Binds X.K fd ps ds) (hd : Vals dvs ds) (hx : ∀ σ, PassesAt CX X σ (E σ))
    (hdb : (x == ("__debug__" : Str)) = false) : PE X (.Call (.Name x p) [] [] pos) (tMakeSD C sp dvs E tNil) := by
  refine ⟨fun pins s σ H Q I h => ?_⟩
  refine wpAny_Call_Name_kw (ld_glob I hg hm ?_ hdb)
  exact PySem.W.callWith_K0 I.kIn M.kp (run_makeSD (us := []) M F hr hb hd (hx σ) I .nil h)
end
/-! evaluators -/
/-- name.m(..), which changes nothing -/
def evMeth (c i : Nat) (F : FD) (ks : List Bool) (dds : List D) (fr : DS → Option EA) : DS → Option ER := fun δ => match δ[i]? with
  | some (some (.ins _ c' _)) => if c' = c then evCall F (true :: ks) dds (evDefer i fr) δ else none
  | _ => none
/-- name.m(..), which changes the instance -/
def evMethM (c i : Nat) (F : FD) (ks : List Bool) (dds : List D) (fr : DS → Option EA) : DS → Option ER := fun δ => match δ[i]? with
  | some (some (.ins _ c' _)) => if c' = c then evCallM F i ks dds fr δ else none
  | _ => none
def isIns (c : Nat) : D → Bool
  | .ins _ c' _ => c' == c
  | _ => false
/-- C(..) -/
def evMake (c : Nat) (F : FD) (ks : List Bool) (dds : List D) (fa : DS → Option EA) : DS → Option ER := fun δ => match fa δ with
  | none => none
  | some (.ex x, δ') => some (.ex x, δ')
  | some (.ok ds, δ') => match F (.ins .oo c [] :: (argD ks ds ++ dds)) with
    | none => none
    | some (.ex x, _) => some (.ex x, δ')
    | some (.ok d, δr) => match d with
      | .non => (match hd0 δr with
        | some r => some (.ok r, δ')
        | none => none)
      | _ => none
section
variable {G : GC} {W : WX} {X : Cx}
theorem lookup_no {G : GC} {m : Str} (hm : ∀ k, G.fld k ≠ m) : ∀ {fs : List (Nat × D)} {gs : List (Str × V)}, fs.map (fun p => G.fld p.1) = gs.map (·.1) → gs.lookup m = none
  | [], [], _ => rfl
  | [], _ :: _, h => by cases h
  | _ :: _, [], h => by cases h
  | p :: fs, (g, w) :: gs, h => by
    rw [List.map_cons, List.map_cons] at h
    obtain ⟨h1, h2⟩ := List.cons.inj h
    rw [List.lookup_cons]
    rw [show (m == g) = false from by rw [beq_eq_false_iff_ne]; rintro rfl; exact hm p.1 h1]
    exact lookup_no hm h2
theorem rd_meth {F : FD} {c i : Nat} {m : Str} {ks : List Bool} {qt : Bool} {dds : List D} {dvs : List V} {fr : DS → Option EA} {tr : TA} (hm : ∀ k, G.fld k ≠ m) (hd : Cst G dds dvs) (ha : ∀ σ H Q, rdA G W ks qt fr σ H Q → tr σ H Q) :
    ∀ σ H Q, rdE G W false qt (evMeth c i F ks dds fr) σ H Q → tMethSD (G.cls c) m (spF G F) dvs (fun σ => WE W σ) (tVar i) tr σ H Q := by
  rintro σ H Q ⟨δ, Z, S, FS, sr, ⟨w, hf⟩, ok, ex⟩
  unfold evMeth at hf ok ex
  split at hf
  · rename_i m0 c' fs e0
    split at hf
    · rename_i hcc
      simp only [e0, hcc, if_true] at ok ex
      obtain ⟨v, ev, rp⟩ := sr.slot i _ e0
      obtain ⟨a, dx, gs, rfl, hh, hl, _⟩ := rp.insV
      rw [hcc] at hh
      obtain ⟨v', ev', t⟩ := rd_call (G := G) (W := W) (F := F) (ks := true :: ks) (qt := qt) hd (rd_defer ha) σ H Q ⟨δ, Z, S, FS, sr, ⟨w, hf⟩, ok, ex⟩
      rw [ev] at ev'
      cases ev'
      exact ⟨.ref a, ev, a, dx, gs, rfl, hh, lookup_no hm hl, t⟩
    · cases hf
  · cases hf
theorem rd_methM {F : FD} {c i : Nat} {m : Str} {ks : List Bool} {qt : Bool} {dds : List D} {dvs : List V} {fr : DS → Option EA} {tr : TA} (hm : ∀ k, G.fld k ≠ m) (hd : Cst G dds dvs) (ha : ∀ σ H Q, rdA G W ks qt fr σ H Q → tr σ H Q) :
    ∀ σ H Q, rdE G W false false (evMethM c i F ks dds fr) σ H Q → tMethSD (G.cls c) m (spF G F) dvs (fun σ => WE W σ) (tVar i) tr σ H Q := by
  rintro σ H Q ⟨δ, Z, S, FS, sr, ⟨w, hf⟩, ok, ex⟩
  unfold evMethM at hf ok ex
  split at hf
  · rename_i m0 c' fs e0
    split at hf
    · rename_i hcc
      simp only [e0, hcc, if_true] at ok ex
      obtain ⟨v, ev, rp⟩ := sr.slot i _ e0
      obtain ⟨a, dx, gs, rfl, hh, hl, _⟩ := rp.insV
      rw [hcc] at hh
      obtain ⟨v', ev', t⟩ := rd_callM (G := G) (W := W) (F := F) hd ha σ H Q ⟨δ, Z, S, FS, sr, ⟨w, hf⟩, ok, ex⟩
      rw [ev] at ev'
      cases ev'
      exact ⟨.ref a, ev, a, dx, gs, rfl, hh, lookup_no hm hl, t⟩
    · cases hf
  · cases hf
/-- a receiver that is seen -/
theorem rd_recv {c : Nat} {m : Str} {qt : Bool} {f : DS → Option ER} {te : TE} (hm : ∀ k, G.fld k ≠ m) (ha : ∀ σ H Q, rdE G W true qt f σ H Q → te σ H Q) :
    ∀ σ H Q, rdE G W true qt (evGuard (isIns c) f) σ H Q → te σ H fun x H1 => ∃ a dx fs, x = .ref a ∧ H1 a = some (.ins (G.cls c) dx fs) ∧ fs.lookup m = none ∧ Q x H1 := by
  rintro σ H Q ⟨δ, Z, S, FS, sr, ⟨w, hf⟩, ok, ex⟩
  unfold evGuard at hf ok ex
  refine ha σ H _ ⟨δ, Z, S, FS, sr, ?_, fun d δ' h v H' Z' FS' A p => ?_, fun x δ' h => ?_⟩
  · cases q : f δ with
    | none => rw [q] at hf; cases hf
    | some w => exact ⟨w, rfl⟩
  · rw [h] at hf ok
    simp only at hf ok
    by_cases hi : isIns c d = true
    · rw [if_pos hi] at hf ok
      cases d with
      | ins m0 c' fs =>
        have hcc : c' = c := by simpa [isIns] using hi
        have vl := p.vl
        rw [if_pos rfl] at vl
        obtain ⟨a, dx, gs, rfl, hh, hl, _⟩ := vl.1.insV
        rw [hcc] at hh
        exact ⟨a, dx, gs, rfl, hh, lookup_no hm hl, ok _ _ rfl _ _ _ _ _ p⟩
      | _ => cases hi
    · rw [if_neg hi] at hf; cases hf
  · rw [h] at ex
    exact ex x δ' rfl
theorem rd_methE {F : FD} {c : Nat} {m : Str} {ks : List Bool} {qt qr : Bool} {dds : List D} {dvs : List V} {fo : DS → Option ER} {fr : DS → Option EA} {te : TE} {tr : TA} (hm : ∀ k, G.fld k ≠ m) (hd : Cst G dds dvs) (ho : ∀ σ H Q, rdE G W true true fo σ H Q → te σ H Q) (ha : ∀ σ H Q, rdA G W ks qr fr σ H Q → tr σ H Q) :
    ∀ σ H Q, rdE G W false qr (evCall F (true :: ks) dds (evCons true qr (evGuard (isIns c) fo) fr)) σ H Q → tMethSD (G.cls c) m (spF G F) dvs (fun σ => WE W σ) te tr σ H Q := fun σ H Q h =>
  rd_call (G := G) (W := W) (F := F) (ks := true :: ks) (qt := qr) hd (tr := tCons (fun σ H Q => te σ H fun x H1 => ∃ a dx fs, x = .ref a ∧ H1 a = some (.ins (G.cls c) dx fs) ∧ fs.lookup m = none ∧ Q x H1) tr)
    (fun σ H Q h => by
      have := rd_cons (qa := true) (vw := true) (G := G) (W := W) (rd_recv (c := c) hm ho) ha (fun _ => rfl) σ H Q
      rw [Bool.true_and] at this
      exact this h) σ H Q h
end
end PD
/-! P, part 38: the rules for instances. -/
namespace PD
open PySem L2
section
variable {G : GC} {W : WX} {X : Cx}
/-- the callee's slots, a new instance ahead -/
theorem SR.argsN {Z : AS} {S : Nat → AS} {H : Hp} {δ : DS} {σ : St} {x dx : Addr} {c : Nat} (sr : SR G Z S H δ σ (fun _ => S0)) (hx : H x = none) (hdx : H dx = none) :
    SR G Z (fun j y => j ≠ 0 ∧ S (j - 1) y) (upd (upd H dx (.own x)) x (.ins (G.cls c) dx [])) (some (.ins .oo c []) :: δ) (some (.ref x) :: σ) (fun j y => j = 0 ∧ y = x) where
  len := by simp [sr.len]
  slot := fun j d e => by
    have old : ∀ a o, H a = some o → upd (upd H dx (.own x)) x (.ins (G.cls c) dx []) a = some o := fun a o e => by
      rw [upd_ne (by rintro rfl; rw [hx] at e; cases e), upd_ne (by rintro rfl; rw [hdx] at e; cases e)]
      exact e
    cases j with
    | zero =>
      simp at e
      subst e
      exact ⟨_, rfl, .ioo (fun _ => S0) upd_same rfl (fun i p q e => by simp at e) (fun _ _ _ z => z.elim) (fun _ z => z) (fun _ _ z => z.elim) fun y => ⟨fun z => .inl z.2, fun z => ⟨rfl, z.elim id fun ⟨_, z⟩ => z.elim⟩⟩⟩
    | succ j =>
      have e : δ[j]? = some (some d) := by simpa using e
      obtain ⟨v, ev, rp⟩ := sr.slot j d e
      exact ⟨v, by simpa using ev, (rp.mono (fun _ z => z) (fun y z => ⟨by omega, by simpa using z⟩) fun a _ o e => old a o e).congr fun y => ⟨fun z => by simp at z, fun z => z.elim⟩⟩
  empt := fun j h y z => by
    rw [z.1] at h
    exact h _ rfl
  disj := fun i j y a b => by rw [a.1, b.1]
  zs := fun a z => by
    obtain ⟨o, e⟩ := sr.zs a z
    exact ⟨o, by rw [upd_ne (by rintro rfl; rw [hx] at e; cases e), upd_ne (by rintro rfl; rw [hdx] at e; cases e)]; exact e⟩
  ss := fun a ⟨j, _, z⟩ => by
    obtain ⟨o, e⟩ := sr.ss a ⟨_, z⟩
    exact ⟨o, by rw [upd_ne (by rintro rfl; rw [hx] at e; cases e), upd_ne (by rintro rfl; rw [hdx] at e; cases e)]; exact e⟩
  nz := fun a ⟨j, _, z⟩ => by
    subst z
    refine ⟨fun z => ?_, fun ⟨j, _, z⟩ => ?_⟩
    · obtain ⟨o, e⟩ := sr.zs a z; rw [hx] at e; cases e
    · obtain ⟨o, e⟩ := sr.ss a ⟨_, z⟩; rw [hx] at e; cases e
theorem rd_make {F : FD} {c : Nat} {ks : List Bool} {qt : Bool} {dds : List D} {dvs : List V} {fa : DS → Option EA} {tr : TA} (hd : Cst G dds dvs) (ha : ∀ σ H Q, rdA G W ks qt fa σ H Q → tr σ H Q) :
    ∀ σ H Q, rdE G W false qt (evMake c F ks dds fa) σ H Q → tMakeSD (G.cls c) (spF G F) dvs (fun σ => WE W σ) tr σ H Q := by
  rintro σ H Q ⟨δ, Z, S, FS, sr, ⟨w, hf⟩, ok, ex⟩
  unfold evMake at hf ok ex
  refine ha σ H _ ⟨δ, Z, S, FS, sr, ?_, fun ds δ' h vs H' Z' FS' B p => ?_, fun x δ' h => ?_⟩
  · cases q : fa δ with
    | none => rw [q] at hf; cases hf
    | some w => exact ⟨w, rfl⟩
  · rw [h] at hf ok ex
    simp only at hf ok ex
    intro x dx hx hdx hne
    have tm := fun x t => Tm.out p.ar x t
    have sa := p.sr.args p.ar hd
    have sn := sa.argsN (c := c) hx hdx
    have old : ∀ a o, H' a = some o → upd (upd H' dx (.own x)) x (.ins (G.cls c) dx []) a = some o := fun a o e => by
      rw [upd_ne (by rintro rfl; rw [hx] at e; cases e), upd_ne (by rintro rfl; rw [hdx] at e; cases e)]
      exact e
    have back : ∀ a, upd (upd H' dx (.own x)) x (.ins (G.cls c) dx []) a = none → H' a = none := fun a e => by
      cases q : H' a with
      | none => rfl
      | some o => rw [old a o q] at e; cases e
    have onlyx : ∀ y, Own (fun j y => j = 0 ∧ y = x) y → H' y = none := fun y ⟨_, _, z⟩ => by rw [z]; exact hx
    have stp : ∀ {H2 : Hp} {Z2 P2 : AS}, Step (upd (upd H' dx (.own x)) x (.ins (G.cls c) dx [])) (fun x => Z' x ∨ Tm ks B x) (Own fun j y => j = 0 ∧ y = x) H2 Z2 P2 → Step H' (fun x => Z' x ∨ Tm ks B x) (Own fun _ => S0) H2 Z2 P2 := fun st => by
      refine ⟨fun a o e _ => st.keep a o (old a o e) fun z => (by rw [onlyx a z] at e; cases e), fun a o e => st.there a o (old a o e), st.zin, fun a z => ?_, fun a z => ?_⟩
      · rcases st.znew a z with z | z | z
        · exact .inl z
        · exact .inr (.inr (onlyx a z))
        · exact .inr (.inr (back a z))
      · rcases st.pnew a z with z | z
        · exact .inr (onlyx a z)
        · exact .inr (back a z)
    refine ⟨.ins .oo c [] :: (argD ks ds ++ dds), _, _, _, by simpa only [List.map_cons] using sn, ?_, fun d δr hF v H2 Z2 FS2 A p2 => ?_, fun x δr hF c dd H2 Z2 FS2 p2 => ?_⟩
    · cases q : F (.ins .oo c [] :: (argD ks ds ++ dds)) with
      | none => rw [q] at hf; cases hf
      | some w => exact ⟨w, rfl⟩
    · rw [hF] at hf ok
      cases d with
      | non =>
        simp only at hf ok
        cases hr : hd0 δr with
        | none => rw [hr] at hf; cases hf
        | some r =>
          rw [hr] at hf ok
          have vl := p2.vl
          rw [if_neg Bool.false_ne_true] at vl
          have er : δr[0]? = some (some r) := by
            unfold hd0 at hr
            cases q : δr[0]? with
            | none => rw [q] at hr; cases hr
            | some u => rw [q] at hr; exact congrArg some hr
          obtain ⟨u, eu, rp⟩ := p2.sr.slot 0 r er
          have eu : u = .ref x := by simpa using eu.symm
          subst eu
          have st := stp (p2.st.sub fun y z => .inl z)
          have nA : ∀ y, FS2 0 y → H' y = none := fun y z => (st.pnew y ⟨0, z⟩).elim (fun q => (noOwn0 q).elim) id
          refine ⟨vl.1.nonV, ok r δ' rfl (.ref x) H2 Z2 FS' (FS2 0) ⟨p.sr.called st (fun _ z => .inl z) (fun x z => z.imp id fun q => ⟨(tm x q).1, (tm x q).2.2⟩) p2.sr.zs, ?_, ?_, fun q => ?_⟩⟩
          · refine p.st.trans ⟨fun a o e _ => st.keep a o e noOwn0, st.there, fun a z => st.zin a (.inl z), fun a z => ?_, fun a z => z.elim (fun q => .inl (.inl q)) fun q => .inr (nA a q)⟩
            rcases st.znew a z with (z | z) | z | z
            · exact .inl z
            · exact .inr (.inl (.inr z))
            · exact (noOwn0 z).elim
            · exact .inr (.inr z)
          · rw [if_neg Bool.false_ne_true]
            refine ⟨rp.mono (fun _ z => z) (fun y z => (z.1 rfl).elim) fun _ _ _ e => e, fun y a => ⟨(p2.sr.nz y ⟨0, a⟩).1, fun z => ?_, fun z => ?_⟩⟩
            · obtain ⟨o, e⟩ := p.sr.ss y z; rw [nA y a] at e; cases e
            · obtain ⟨o, e⟩ := p.sr.own y z; rw [nA y a] at e; cases e
          · obtain ⟨b, c⟩ := p.qq q
            exact ⟨b, c.trans fun a o e => st.keep a o e noOwn0⟩
      | _ => cases hf
    · rw [hF] at ex
      have st := stp p2.st
      refine ex x δ' rfl c dd H2 Z2 FS' ⟨p.sr.called st (fun _ z => .inl z) (fun x z => z.imp id fun q => ⟨(tm x q).1, (tm x q).2.2⟩) p2.sr.zs, ?_, p2.xr⟩
      refine p.st.trans ⟨fun a o e _ => st.keep a o e noOwn0, st.there, fun a z => st.zin a (.inl z), fun a z => ?_, fun a z => .inl (.inl z)⟩
      rcases st.znew a z with (z | z) | z | z
      · exact .inl z
      · exact .inr (.inl (.inr z))
      · exact (noOwn0 z).elim
      · exact .inr (.inr z)
  · rw [h] at ex
    exact ex x δ' rfl
end
/-! rules -/
/-- a method, by the class's number -/
def FdM (E : En) (G : GC) (c : Nat) (m : Str) (k : Nat) (F : FD) (dds : List D) : Prop :=
  ∃ f fd ps ds dvs, FnOk E.P E.w E.K E.mg E.base (CX E.P E.w) k f fd ps (spF G F) ∧ Meth E.K (G.cls c) m f ∧ Binds E.K fd ps ds ∧ Vals dvs ds ∧ Cst G dds dvs ∧ Cls E.K (G.cls c) ∧ ∀ k, G.fld k ≠ m
/-- a class that is called: its __init__ -/
def FdI (E : En) (G : GC) (x : Str) (c k : Nat) (F : FD) (dds : List D) : Prop :=
  ∃ f fd ps ds dvs, FnOk E.P E.w E.K E.mg E.base (CX E.P E.w) k f fd ps (spF G F) ∧ Mk E.K (G.cls c) f ∧ E.mg x = some (.ref (G.cls c)) ∧ Binds E.K fd ps ds ∧ Vals dvs ds ∧ Cst G dds dvs
/-- an attribute of a class's instances -/
structure At1 (E : En) (G : GC) (c k : Nat) (m : Str) : Prop where
  inj : FldInj G
  cls : Cls E.K (G.cls c)
  no : NoAttr E.K (G.cls c) m
  nm : m = G.fld k
section
variable {E : En} {G : GC} {p : Pl} {X : Cx} {n : Nat} {pn : List Nat}
theorem j_attr {qt : Bool} {c k : Nat} {m : Str} {e : Expr} {pos : Pos} {f : DS → Option ER} (hG : G.K = E.K) (h : At1 E G c k m) (ha : JE E G p true qt e f) (hb : ∀ env : Env, attributeBase e m env (eval e env) = eval e env := by exact fun _ => rfl) : JE E G p true qt (.Attribute e m pos) (evAttr c k f) := fun X W hA hT => by
  obtain ⟨h1, h2, h3, rfl⟩ := h
  have h2' : Cls G.K (G.cls c) := by rw [hG]; exact h2
  have h3' : NoAttr G.K (G.cls c) (G.fld k) := by rw [hG]; exact h3
  refine PE.mono (pe_fld (ha X W hA hT) (hb _)) ?_
  have := rd_attr (G := G) (W := W) (qt := qt) (c := c) (k := k) (f := f) h1 h2' h3' fun _ _ _ h => h
  rw [hG, ← hA.K] at this
  exact this
theorem s_setF {qt : Bool} {i c k : Nat} {x m : Str} {q r pos : Pos} {e : Expr} {f : DS → Option ER} (hG : G.K = E.K) (h : At1 E G c k m) (hx : nmOk p i x = true) (ha : JE E G p false qt e f) (hs : ∀ env : Env, swapsWith e (some (.Attribute (.Name x q) m r)) pos.line env = pure false := by exact fun _ => rfl) :
    JS E G p n pn (.Assign [.Attribute (.Name x q) m r] e pos) (evSetF i c k f) := fun X W hA hT _ => by
  obtain ⟨h1, h2, h3, rfl⟩ := h
  have h2' : Cls G.K (G.cls c) := by rw [hG]; exact h2
  have h3' : NoAttr G.K (G.cls c) (G.fld k) := by rw [hG]; exact h3
  refine PS.mono (ps_fld (at_pe hx hA) (ha X W hA hT) (hs _)) ?_
  have := rd_setF (G := G) (W := W) (n := n) (pn := pn) (i := i) (qt := qt) (c := c) (k := k) (f := f) h1 h2' h3' fun _ _ _ h => h
  rw [hG, ← hA.K] at this
  exact this
/-- a value got without a change -/
def JEh (E : En) (G : GC) (p : Pl) (e : Expr) (f : DS → Option ER) : Prop := ∀ X W, At E p X → Takes X W → PE X e (rdEh G W f)
theorem j_hq {e : Expr} {f : DS → Option ER} (h : JE E G p false true e f) : JEh E G p e f := fun X W hA hT => PE.mono (h X W hA hT) (rd_hq fun _ _ _ h => h)
theorem j_hv {i : Nat} {x : Str} {pos : Pos} (h : nmOk p i x = true) : JEh E G p (.Name x pos) (evFv i) := fun X W hA _ => PE.mono (at_pe h hA) rd_hv
theorem s_appF {i c k : Nat} {x m : Str} {q r a cp pos : Pos} {e : Expr} {f : DS → Option ER} (hG : G.K = E.K) (h : At1 E G c k m) (hx : nmOk p i x = true) (ha : JEh E G p e f) (hb : ∀ env : Env, attributeBase (.Name x q) m env (eval (.Name x q) env) = eval (.Name x q) env := by exact fun _ => rfl)
    (h0 : ∀ env : Env, attributeBase (.Attribute (.Name x q) m r) (Str.ofString "append") env (eval (.Attribute (.Name x q) m r) env) = eval (.Attribute (.Name x q) m r) env := by exact fun _ => rfl) (hs : StarNo e [] := by exact fun _ => rfl) (hp : (a.endLine == cp.line) = true := by rfl)
    (h2 : ∀ env : Env, ((((backTo cp (starEach [e] env)).all fun x => !x.1) && ((backToKw cp (keywordEach [] env)).all fun x => x.1.isSome)) && decide (([e].length + ([] : List Keyword).length + if ([] : List Keyword).isEmpty = true then 0 else 1) < 30)) = true := by exact fun _ => rfl)
    (h3 : ∀ env : Env, swapsWith (.Call (.Attribute (.Attribute (.Name x q) m r) (Str.ofString "append") a) [e] [] cp) none pos.line env = pure false := by exact fun _ => rfl) : JS E G p n pn (.Expr (.Call (.Attribute (.Attribute (.Name x q) m r) (Str.ofString "append") a) [e] [] cp) pos) (evAppF i c k f) := fun X W hA hT _ => by
  obtain ⟨g1, g2, g3, rfl⟩ := h
  have g2' : Cls G.K (G.cls c) := by rw [hG]; exact g2
  have g3' : NoAttr G.K (G.cls c) (G.fld k) := by rw [hG]; exact g3
  have P0 := ps_expr (pos := pos) (pe_bm (apos := a) (cpos := cp) PySem.F.plainAttrs_list PySem.F.slot_list_append PySem.F.type_list_append mt_append (pe_fld (at_pe hx hA) (hb _)) (pa_cons (ha X W hA hT) pa_nil (hs _)) (h0 _) (h2 _) hp (hs _) (by rfl)) (h3 _)
  refine PS.mono P0 ?_
  have := rd_appF (G := G) (W := W) (n := n) (pn := pn) (i := i) (c := c) (k := k) (f := f) g1 g2' g3' fun _ _ _ h => h
  rw [hG, ← hA.K] at this
  exact this
/-- how o.m(..) is evaluated -/
abbrev MethEv (o : Expr) (m : Str) (apos pos : Pos) (es : List Expr) (pl : Env → Sem Bool) : Prop := ∀ env : Env, eval (.Call (.Attribute o m apos) es [] pos) env = (do
      let ov ← eval o env
      standAt apos.atName
      let (f, first) ← holding [ov] (getMethod ov m (pl env))
      callWith pos f first (backTo pos (starEach es env)) (backToKw pos (keywordEach [] env)))
theorem at_meth {c k : Nat} {m : Str} {F : FD} {dds : List D} {a pos : Pos} {o e : Expr} {es : List Expr} {W : WX} {ta : TE} {t : TA} {pl : Env → Sem Bool} (h : FdM E G c m k F dds) (hk : k ≤ p.k) (hA : At E p X) (hT : Takes X W) (hh : p.hot = false) (he : PE X o ta) (ha : PA X (e :: es) t) (hs : StarNo e es) (hs2 : NoStar es) (ht : MethEv o m a pos (e :: es) pl) :
    ∃ dvs, Cst G dds dvs ∧ (∀ k, G.fld k ≠ m) ∧ PE X (.Call (.Attribute o m a) (e :: es) [] pos) (tMethSD (G.cls c) m (spF G F) dvs (fun σ => WE W σ) ta t) := by
  obtain ⟨f, fd, ps, ds, dvs, h1, h2, h4, h5, h6, h7, h8⟩ := h
  obtain ⟨eP, ew, eK, emg, eb, _, _, hr, _, _, _, _⟩ := hA
  have hr := hr hh
  rw [← eP, ← ew, ← eK, ← emg, ← eb] at h1
  rw [← eK] at h2 h4 h7
  exact ⟨dvs, h6, h8, pe_methSD (pl := pl X.env) he h7 h2 h1 (hr.mono hk) h4 h5 (fun σ => passAt hT σ) ha (hs _) (hs2 _ _) (ht _)⟩
theorem at_meth0 {c k : Nat} {m : Str} {F : FD} {dds : List D} {a pos : Pos} {o : Expr} {W : WX} {ta : TE} {pl : Env → Sem Bool} (h : FdM E G c m k F dds) (hk : k ≤ p.k) (hA : At E p X) (hT : Takes X W) (hh : p.hot = false) (he : PE X o ta) (ht : MethEv o m a pos [] pl) :
    ∃ dvs, Cst G dds dvs ∧ (∀ k, G.fld k ≠ m) ∧ PE X (.Call (.Attribute o m a) [] [] pos) (tMethSD (G.cls c) m (spF G F) dvs (fun σ => WE W σ) ta tNil) := by
  obtain ⟨f, fd, ps, ds, dvs, h1, h2, h4, h5, h6, h7, h8⟩ := h
  obtain ⟨eP, ew, eK, emg, eb, _, _, hr, _, _, _, _⟩ := hA
  have hr := hr hh
  rw [← eP, ← ew, ← eK, ← emg, ← eb] at h1
  rw [← eK] at h2 h4 h7
  exact ⟨dvs, h6, h8, pe_meth0SD (pl := pl X.env) he h7 h2 h1 (hr.mono hk) h4 h5 (fun σ => passAt hT σ) (ht _)⟩
theorem j_meth {c i k : Nat} {m y : Str} {F : FD} {dds : List D} {ks : List Bool} {qt : Bool} {q a pos : Pos} {e : Expr} {es : List Expr} {fr : DS → Option EA} {pl : Env → Sem Bool} (h : FdM E G c m k F dds) (hk : k ≤ p.k) (hy : nmOk p i y = true) (ha : JA E G p ks qt (e :: es) fr) (ht : MethEv (.Name y q) m a pos (e :: es) pl) (hh : p.hot = false := by rfl) (hs : StarNo e es := by exact fun _ => rfl) (hs2 : NoStar es := by exact fun _ _ => rfl) :
    JE E G p false qt (.Call (.Attribute (.Name y q) m a) (e :: es) [] pos) (evMeth c i F ks dds fr) := fun X W hA hT =>
  let ⟨_, h6, h8, hp⟩ := at_meth h hk hA hT hh (at_pe hy hA) (ha X W hA hT) hs hs2 ht
  PE.mono hp (rd_meth h8 h6 fun _ _ _ h => h)
theorem j_meth0 {c i k : Nat} {m y : Str} {F : FD} {dds : List D} {q a pos : Pos} {pl : Env → Sem Bool} (h : FdM E G c m k F dds) (hk : k ≤ p.k) (hy : nmOk p i y = true) (ht : MethEv (.Name y q) m a pos [] pl) (hh : p.hot = false := by rfl) :
    JE E G p false true (.Call (.Attribute (.Name y q) m a) [] [] pos) (evMeth c i F [] dds evNil) := fun X W hA hT =>
  let ⟨_, h6, h8, hp⟩ := at_meth0 h hk hA hT hh (at_pe hy hA) ht
  PE.mono hp (rd_meth h8 h6 rd_nil)
theorem j_methM {c i k : Nat} {m y : Str} {F : FD} {dds : List D} {ks : List Bool} {qt : Bool} {q a pos : Pos} {e : Expr} {es : List Expr} {fr : DS → Option EA} {pl : Env → Sem Bool} (h : FdM E G c m k F dds) (hk : k ≤ p.k) (hy : nmOk p i y = true) (ha : JA E G p ks qt (e :: es) fr) (ht : MethEv (.Name y q) m a pos (e :: es) pl) (hh : p.hot = false := by rfl) (hs : StarNo e es := by exact fun _ => rfl) (hs2 : NoStar es := by exact fun _ _ => rfl) :
    JE E G p false false (.Call (.Attribute (.Name y q) m a) (e :: es) [] pos) (evMethM c i F ks dds fr) := fun X W hA hT =>
  let ⟨_, h6, h8, hp⟩ := at_meth h hk hA hT hh (at_pe hy hA) (ha X W hA hT) hs hs2 ht
  PE.mono hp (rd_methM h8 h6 fun _ _ _ h => h)
theorem j_methM0 {c i k : Nat} {m y : Str} {F : FD} {dds : List D} {q a pos : Pos} {pl : Env → Sem Bool} (h : FdM E G c m k F dds) (hk : k ≤ p.k) (hy : nmOk p i y = true) (ht : MethEv (.Name y q) m a pos [] pl) (hh : p.hot = false := by rfl) :
    JE E G p false false (.Call (.Attribute (.Name y q) m a) [] [] pos) (evMethM c i F [] dds evNil) := fun X W hA hT =>
  let ⟨_, h6, h8, hp⟩ := at_meth0 h hk hA hT hh (at_pe hy hA) ht
  PE.mono hp (rd_methM h8 h6 rd_nil)
theorem j_methE {c k : Nat} {m : Str} {F : FD} {dds : List D} {ks : List Bool} {qt : Bool} {a pos : Pos} {o e : Expr} {es : List Expr} {fo : DS → Option ER} {fr : DS → Option EA} {pl : Env → Sem Bool} (h : FdM E G c m k F dds) (hk : k ≤ p.k) (ho : JE E G p true true o fo) (ha : JA E G p ks qt (e :: es) fr) (ht : MethEv o m a pos (e :: es) pl) (hh : p.hot = false := by rfl) (hs : StarNo e es := by exact fun _ => rfl) (hs2 : NoStar es := by exact fun _ _ => rfl) :
    JE E G p false qt (.Call (.Attribute o m a) (e :: es) [] pos) (evCall F (true :: ks) dds (evCons true qt (evGuard (isIns c) fo) fr)) := fun X W hA hT =>
  let ⟨_, h6, h8, hp⟩ := at_meth h hk hA hT hh (ho X W hA hT) (ha X W hA hT) hs hs2 ht
  PE.mono hp (rd_methE (qt := true) h8 h6 (fun _ _ _ h => h) fun _ _ _ h => h)
theorem j_methE0 {c k : Nat} {m : Str} {F : FD} {dds : List D} {a pos : Pos} {o : Expr} {fo : DS → Option ER} {pl : Env → Sem Bool} (h : FdM E G c m k F dds) (hk : k ≤ p.k) (ho : JE E G p true true o fo) (ht : MethEv o m a pos [] pl) (hh : p.hot = false := by rfl) :
    JE E G p false true (.Call (.Attribute o m a) [] [] pos) (evCall F [true] dds (evCons true true (evGuard (isIns c) fo) evNil)) := fun X W hA hT =>
  let ⟨_, h6, h8, hp⟩ := at_meth0 h hk hA hT hh (ho X W hA hT) ht
  PE.mono hp (rd_methE (qt := true) h8 h6 (fun _ _ _ h => h) rd_nil)
theorem at_make {x : Str} {c k : Nat} {F : FD} {dds : List D} {q pos : Pos} {e : Expr} {es : List Expr} {W : WX} {t : TA} (h : FdI E G x c k F dds) (hk : k + 1 ≤ p.k) (hg : glOk p x = true) (hA : At E p X) (hT : Takes X W) (hh : p.hot = false) (hs : StarNo e es) (hs2 : NoStar es) (ha : PA X (e :: es) t) :
    ∃ dvs, Cst G dds dvs ∧ PE X (.Call (.Name x q) (e :: es) [] pos) (tMakeSD (G.cls c) (spF G F) dvs (fun σ => WE W σ) t) := by
  obtain ⟨f, fd, ps, ds, dvs, h1, h2, h3, h4, h5, h6⟩ := h
  obtain ⟨g1, g2, g3⟩ := at_gl hg hA
  obtain ⟨eP, ew, eK, emg, eb, _, _, hr, _, _, _, _⟩ := hA
  have hr := hr hh
  rw [← eP, ← ew, ← eK, ← emg, ← eb] at h1
  rw [← emg] at h3
  rw [← eK] at h2 h4
  exact ⟨dvs, h6, pe_makeSD h2 h1 (hr.mono hk) g1 h3 h4 h5 (fun σ => passAt hT σ) ha g2 (hs _) (hs2 _ _)⟩
theorem j_make {x : Str} {c k : Nat} {F : FD} {dds : List D} {ks : List Bool} {qt : Bool} {q pos : Pos} {e : Expr} {es : List Expr} {fa : DS → Option EA} (h : FdI E G x c k F dds) (hk : k + 1 ≤ p.k) (hg : glOk p x = true) (ha : JA E G p ks qt (e :: es) fa) (hh : p.hot = false := by rfl) (hs : StarNo e es := by exact fun _ => rfl) (hs2 : NoStar es := by exact fun _ _ => rfl) :
    JE E G p false qt (.Call (.Name x q) (e :: es) [] pos) (evMake c F ks dds fa) := fun X W hA hT =>
  let ⟨_, h6, h⟩ := at_make h hk hg hA hT hh hs hs2 (ha X W hA hT)
  PE.mono h (rd_make h6 fun _ _ _ h => h)
theorem j_make0 {x : Str} {c k : Nat} {F : FD} {dds : List D} {q pos : Pos} (h : FdI E G x c k F dds) (hk : k + 1 ≤ p.k) (hg : glOk p x = true) (hh : p.hot = false := by rfl) :
    JE E G p false true (.Call (.Name x q) [] [] pos) (evMake c F [] dds evNil) := fun X W hA hT => by
  obtain ⟨f, fd, ps, ds, dvs, h1, h2, h3, h4, h5, h6⟩ := h
  obtain ⟨g1, g2, g3⟩ := at_gl hg hA
  obtain ⟨eP, ew, eK, emg, eb, _, _, hr, _, _, _, _⟩ := hA
  have hr := hr hh
  rw [← eP, ← ew, ← eK, ← emg, ← eb] at h1
  rw [← emg] at h3
  rw [← eK] at h2 h4
  exact PE.mono (pe_make0SD h2 h1 (hr.mono hk) g1 h3 h4 h5 (fun σ => passAt hT σ) g2) (rd_make h6 rd_nil)
end
/-- a method's def -/
theorem fdm_of {E : En} {G : GC} {x qual : Str} {params : Arguments} {body : List Stmt} {scope : Scope} {dvl : List V} {f : Addr} {fd : FuncData} {N ps : List Str} {k : Nat} {m : Bool} {ev : DS → Option ES} (F : FunD E.K x qual params body scope dvl [] f fd) (S : FnScope N ps scope) (hl : ps.length ≤ N.length) (h0 : m = true → 0 < ps.length)
    (hb : JSs E G (fnPl N k scope) N.length (if m = true then [0] else []) body ev) : FnOk E.P E.w E.K E.mg E.base (CX E.P E.w) (k + 1) f fd ps (spF G (fnOf N.length ps.length m ev)) := by
  refine F.ok S (fun vs H Q Ex h => ?_) (fun cdv A outer s H vs Q Ex hr h => ?_)
  · obtain ⟨ds, Z, S, FS, sr, ⟨r, hr⟩, _⟩ := h
    have := fnOf_len hr
    have := sr.len
    simp at this
    omega
  · refine ⟨_, hb _ (fun c dd _ H => Ex c dd H) ⟨rfl, rfl, rfl, rfl, rfl, rfl, Nat.lt_of_le_of_lt (Nat.add_le_add_right (Nat.le_add_right _ (16 * k)) 200) hr.un, fun _ => hr, fun _ => rfl, rfl, rfl, fun _ => ⟨rfl, rfl⟩⟩ (takes_of rfl rfl rfl rfl) (passes_of rfl), ?_⟩
    exact rd_fn (t := rdS G (fun c dd _ H => Ex c dd H) N.length (if m = true then [0] else []) ev) rfl hl h0 (fun _ _ _ h => h) h
end PD
/-! P, part 39: list(reversed(..)) at the library's level. -/
namespace PDR
open PySem PySem.Spec PyProof.Rows
variable {prog : Program} {w : World} {A : Around} {E : Value → Shared → Prop} {s : Shared}
theorem extend_rev {R : Result → Shared → Prop} (hh : A.handled = none) {it l : Addr} {items : Array Value} (hit : s.heap.IsRevIter it l ((items.size : Int) - 1)) (hl : s.heap.IsList l items) (hne : l ≠ it) (S : Addr) (res : Value) (c₀ : Nat) (hS : s.heap.get? S = some { cls := .type "list", data := .seq #[] c₀ }) (hSi : S ≠ it) (hSl : S ≠ l)
    (hR : ∀ h' tk acc' c', (∀ b o, b ≠ it → b ≠ S → s.heap.get? b = some o → h'.get? b = some o) → h'.get? S = some { cls := .type "list", dict := none, data := .seq acc' c', slots := #[] } →
      ItemsOf (fun i v => items[items.size - 1 - i]? = some v) acc' items.size → R (.ok (.ret res)) { s with heap := h', toks := tk }) (hn : items.size ≤ sizeLine) :
    wpAny (model prog w) A.in1 (Builtin.List.listExtendWith (.ref S) (.ref it) res)
      (fun fin s' => match fin with | .done f => R (.ok f) s' | .again c' => c'.quiet = true ∧ codeAny (model prog w) A c' R s') (fun e s' => R (.error e) s') s := by
  have W := (Walks.listRev (prog := prog) (w := w) (A := A.in1) hh it l hne items).toS
  have hSf : S ∉ [it, l] := by simp only [List.mem_cons, List.not_mem_nil, or_false, not_or]; exact ⟨hSi, hSl⟩
  have hT : s.TypeIs (.ref it) "list_reverseiterator" := Heap.IsRevIter.typeIs hit
  have h1 : Builtin.List.listSameRef (.ref S) (.ref it) = false := by simp [Builtin.List.listSameRef, hSi]
  unfold Builtin.List.listExtendWith
  refine wpAny_bind (wpAny_typeOf hT ?_)
  rw [if_neg (by rw [h1]; decide)]
  refine wpAny_bind (wpAny_pyIter_revIter hit ?_)
  refine wpAny_bind (wpAny_holding ?_)
  unfold Builtin.List.listLengthHint
  refine wpAny_bind (wpAny_specialOf hT RT.nolen_lri ?_)
  show wpAny _ A.in1 (specialOf (Value.ref it) (Str.ofString "__length_hint__") >>= _) _ _ _
  refine wpAny_bind (wpAny_specialOf hT RT.hint_lri ?_)
  generalize hid : ("list_reverseiterator.__length_hint__" : String) = id0
  wp_delta
  rw [show splitId id0 = some ("list_reverseiterator", "__length_hint__") from by subst hid; decide +kernel]
  subst hid
  refine wpAny_bind (wpAny_isInstance (b := true) hT (by rw [isSubtype_type]; kernel_rfl) ?_)
  refine wpAny_pure ?_
  rw [if_neg (by decide)]
  have e0 : ((items.size : Nat) : Int) - 1 - ((0 : Nat) : Int) = (items.size : Int) - 1 := by omega
  refine wpAny_pure ⟨plainId_quiet F.plain_extend_loop _, codeAny_extend_loopS W hn _ hSf _ items.size 0 _ _ _ rfl (Nat.zero_le _) ⟨Nat.zero_le _, by rw [e0]; exact hit, hl⟩ hS (ItemsOf.nil _) fun s' acc' c' hm hS' hacc => ?_⟩
  rw [Moved.eq_with hm]
  refine hR s'.heap s'.toks acc' c' (fun b ob hb1 hb2 e => hm.heap b ob (fun hmem => ?_) e) hS' hacc
  rcases List.mem_cons.mp hmem with e' | hmem
  · exact hb2 e'
  · exact hb1 (List.mem_singleton.mp hmem)
theorem call_list_rev {it l : Addr} {items : Array Value} {Q : Value → Shared → Prop} (hh : A.handled = none) (hit : s.heap.IsRevIter it l ((items.size : Int) - 1)) (hl : s.heap.IsList l items) (hne : l ≠ it) (hn : items.size ≤ sizeLine)
    (hQ : ∀ h' tk acc' c', (∀ b o, b ≠ it → s.heap.get? b = some o → h'.get? b = some o) →
      h'.get? s.heap.objs.size = some { cls := .type "list", dict := none, data := .seq acc' c', slots := #[] } → ItemsOf (fun i v => items[items.size - 1 - i]? = some v) acc' items.size → Q (.ref s.heap.objs.size) { s with heap := h', toks := tk }) :
    wpAny (model prog w) A (call (.type "list") [.ref it]) Q E s := by
  refine callType_codes (Q₁ := fun obj s₁ => obj = .ref s.heap.objs.size ∧ s₁ = { s with heap := s.heap.push { cls := .type "list", data := .seq #[] } }) PySem.F.called_list (PySem.F.typeCall_list_1 _) PySem.F.entry_list_init
    (code_list_new _ ⟨rfl, rfl⟩) fun obj s₁ h₁ => ?_
  obtain ⟨rfl, rfl⟩ := h₁
  have hS : (s.heap.push { cls := .type "list", data := .seq #[] }).get? s.heap.objs.size = some { cls := .type "list", data := .seq #[] } := Heap.get?_push_size _ rfl
  obtain ⟨oi, hoi, _⟩ := id hit
  obtain ⟨ol, hol, _⟩ := id hl
  have hSi : s.heap.objs.size ≠ it := Nat.ne_of_gt (Heap.lt_size hoi)
  have hSl : s.heap.objs.size ≠ l := Nat.ne_of_gt (Heap.lt_size hol)
  refine ⟨⟨_, hS, rfl⟩, PySem.F.args_list_init_2 _ _, ?_⟩
  show wpAny _ _ (do let old ← Builtin.List.listItems (.ref s.heap.objs.size); Builtin.List.listUpdate (.ref s.heap.objs.size) (fun _ => #[]); letGo old.toList.reverse; Builtin.List.listExtendWith (.ref s.heap.objs.size) (.ref it) .none) _ _ _
  refine wpAny_bind ?_
  unfold Builtin.List.listItems
  refine wpAny_bind (wpAny_seqItems hS rfl (wpAny_pure ?_))
  show wpAny _ _ (updateSeq s.heap.objs.size (fun _ => #[]) >>= fun _ => letGo (#[] : Array Value).toList.reverse >>= fun _ => Builtin.List.listExtendWith (.ref s.heap.objs.size) (.ref it) .none) _ _ _
  refine wpAny_bind (wpAny_updateSeq hS rfl ?_)
  have hS₂ := Heap.get?_update_self (Obj.mapSeq (fun _ => (#[] : Array Value))) hS rfl
  have oth : ∀ b o, b ≠ s.heap.objs.size → (s.heap.push { cls := .type "list", data := .seq #[] }).get? b = some o → ((s.heap.push { cls := .type "list", data := .seq #[] }).update s.heap.objs.size (Obj.mapSeq (fun _ => (#[] : Array Value)))).get? b = some o :=
    fun b o hb e => (Heap.get?_update_other _ _ (Ne.symm hb)).trans e
  have old : ∀ b o, s.heap.get? b = some o → ((s.heap.push { cls := .type "list", data := .seq #[] }).update s.heap.objs.size (Obj.mapSeq (fun _ => (#[] : Array Value)))).get? b = some o :=
    fun b o e => oth b o (Nat.ne_of_lt (Heap.lt_size e)) (Heap.get?_push_of_some _ e)
  refine wpAny_bind (wpAny_letGo ?_)
  refine extend_rev (A := A.in1) (s := { s with heap := (s.heap.push { cls := .type "list", data := .seq #[] }).update s.heap.objs.size (Obj.mapSeq (fun _ => (#[] : Array Value))) }) hh (hit.at fun o e => old _ _ e) ?_ hne s.heap.objs.size .none _ hS₂ hSi hSl (fun h' tk acc' c' hk hS' hacc => ?_) hn
  · obtain ⟨o, ho, r⟩ := hl
    exact ⟨o, old _ _ ho, r⟩
  · exact ⟨rfl, hQ h' tk acc' c' (fun b o hb e => hk b o hb (Nat.ne_of_lt (Heap.lt_size e)) (old b o e)) hS' hacc⟩
end PDR
/-! P, part 40: list(reversed(..)), slices, a list unpacked, receivers that are made. -/
namespace PD
open PySem L2

def gRev : List D → Option D
  | [.lst m xs] => if shal m then some (.lst .o xs.reverse) else none
  | _ => none
def cutD (xs : List D) (lo hi : Option Int) : List D := (xs.drop (HT.sIx xs.length 0 lo)).take (HT.sIx xs.length xs.length hi - HT.sIx xs.length 0 lo)
def bnd : D → Option (Option Int)
  | .non => some none
  | .int i => some (some i)
  | _ => none
def gSlice : List D → Option D
  | [.lst m xs, a, b] => if shal m then (match bnd a, bnd b with
    | some lo, some hi => some (.lst .o (cutD xs lo hi))
    | _, _ => none) else none
  | [.str z, a, b] => if z.length ≤ sizeLine then (match bnd a, bnd b with
    | some lo, some hi => some (.str (cutS z lo hi))
    | _, _ => none) else none
  | _ => none
/-- a, b .. = a list -/
def evAsgL (is : List Nat) (f : DS → Option ER) : DS → Option ES := fun δ => match f δ with
  | none => none
  | some (.ex x, δ') => some (.ex x, δ')
  | some (.ok d, δ') => match d with
    | .lst m xs => if shal m then (match tgNames is xs δ' with
      | some δ2 => some (.nx, δ2)
      | none => none) else none
    | _ => none
section
end
section
open PyProof.Rows
variable {X : Cx}
/-- list(reversed(e)), e a list -/
def tLstRev (K : PySem.W.Frag) (te : TE) : TE := fun σ H Q => te σ H fun v H1 => ∃ (a : Addr) (xs : List V), v = .ref a ∧ SqL K H1 a xs ∧ ∀ q, H1 q = none → Q (.ref q) (upd H1 q (.lst xs.reverse))
theorem pe_lstRev {e : Expr} {te : TE} {p p2 pos pos2 : Pos} (hc : X.calm = true) (hg : Gl X "list") (hm : X.mg "list" = none) (hg2 : Gl X "reversed") (hm2 : X.mg "reversed" = none) (he : PE X e te)
    (hs : starEach [e] X.env = (false, eval e X.env) :: starEach [] X.env)
    (hs2 : starEach [.Call (.Name "reversed" p2) [e] [] pos2] X.env = (false, eval (.Call (.Name "reversed" p2) [e] [] pos2) X.env) :: starEach [] X.env) :
    PE X (.Call (.Name "list" p) [.Call (.Name "reversed" p2) [e] [] pos2] [] pos) (tLstRev X.K te) := by
  refine ⟨fun pins s σ H Q I h => ?_⟩
  refine Call_ (ld_blt I hg hm boot_list (PyProof.Rows.callWith_type1 (args_cons (Call_ (ld_blt I hg2 hm2 PyProof.Rows.boot_reversed (PyProof.Rows.callWith_type1 (args_cons (thn (he.run pins s σ H _ I h) fun u s1 ⟨v, H1, I1, r1, q1⟩ => args_nil ?_) hs) hs rfl))) hs2) hs2 rfl))
  obtain ⟨a, xs, ev, hq, q⟩ := q1
  subst ev
  obtain rfl : u = Value.ref a := r1
  obtain ⟨its, rv, p', hz⟩ := I1.list hq
  refine call_reversed_list p'.isList (args_nil ?_)
  have k0 : ∀ b o, s1.heap.get? b = some o → (s1.heap.push (revObj a ((its.toArray.size : Int) - 1))).get? b = some o := fun b o e => Heap.get?_push_of_some _ e
  have hl := p'.isList
  obtain ⟨ol, hol, _⟩ := id hl
  have hne : a ≠ s1.heap.objs.size := Nat.ne_of_lt (Heap.lt_size hol)
  have hn : its.toArray.size ≤ sizeLine := by rw [List.size_toArray, ← rv.length]; exact hz
  refine PDR.call_list_rev (s := { s1 with heap := s1.heap.push (revObj a ((its.toArray.size : Int) - 1)) }) (I1.ok.hd hc) ⟨_, Heap.get?_push_size _ rfl, rfl, rfl⟩ (hl.push _) hne hn fun h' tk acc c' hk e' hi => ?_
  have hz2 : (s1.heap.push (revObj a ((its.toArray.size : Int) - 1))).objs.size = s1.heap.objs.size + 1 := Heap.size_push _ _
  refine ⟨.ref (s1.heap.push (revObj a ((its.toArray.size : Int) - 1))).objs.size, upd H1 (s1.heap.push (revObj a ((its.toArray.size : Int) - 1))).objs.size (.lst xs.reverse), ?_, rfl, q _ (I1.hok.fresh (by rw [hz2]; omega))⟩
  refine I1.laid (h' := h') (t' := tk) (fun b o e => hk b o (Nat.ne_of_lt (Heap.lt_size e)) (k0 b o e)) (by rw [hz2]; omega) ?_
  exact (show ObjOk X.prog X.w _ h' _ (.lst xs.reverse) from ⟨by rw [List.length_reverse]; exact hz, acc.toList, c', RT.vals_rev rv hi, by rw [Array.toArray_toList]; exact e'⟩)
end
section
variable {G : GC} {W : WX} {X : Cx} {n : Nat} {pn : List Nat} {E : En} {p : Pl}
theorem rdE.mono {vw qt : Bool} {f : DS → Option ER} {σ : St} {H : Hp} {Q Q' : VK} (m : ∀ v H, Q v H → Q' v H) : rdE G W vw qt f σ H Q → rdE G W vw qt f σ H Q' := fun ⟨δ, Z, S, FS, sr, h, ok, ex⟩ => ⟨δ, Z, S, FS, sr, h, fun d δ' e v H' Z' FS' A p => m _ _ (ok d δ' e v H' Z' FS' A p), ex⟩
theorem rd_rev {vw qt : Bool} {f : DS → Option ER} (hv : vw = true → qt = true) : ∀ σ H Q, rdE G W false qt (evOp gRev (evCons vw true f evNil)) σ H Q → tLstRev G.K (rdE G W vw qt f) σ H Q := fun σ H Q h => by
  have h1 := rd_op (G := G) (W := W) (ks := [vw]) (qt := qt) (r := rOf G gRev) (tr := tCons (rdE G W vw qt f) tNil) (snd_of G gRev) (fun σ H Q h => by
    have := rd_cons (G := G) (W := W) (vw := vw) (qa := qt) (fa := f) (ta := rdE G W vw qt f) (fun _ _ _ h => h) rd_nil hv σ H Q
    rw [Bool.and_true] at this
    exact this h) σ H Q h
  refine rdE.mono (fun v H1 ⟨Z, S, ds, d, zs, a, e, k⟩ => ?_) h1
  unfold gRev at e
  split at e
  · rename_i m xs
    split at e
    · rename_i hs
      cases e
      obtain ⟨_, A, ev, r1⟩ := argv1 a
      cases ev
      obtain ⟨p, vs, rfl, sq, hl, he, _, hf⟩ := r1.lstV
      refine ⟨p, vs, rfl, sq, fun l hn => k.lst zs (by simpa using hl) (fun i d w e1 e2 => ?_) hn⟩
      have hi : i < xs.length := by have := (List.getElem?_eq_some_iff.mp e1).1; simpa using this
      rw [List.getElem?_reverse hi] at e1
      rw [List.getElem?_reverse (by rw [← hl]; exact hi), ← hl] at e2
      exact hf hs _ d w e1 e2
    · cases e
  · cases e
theorem j_rev {vw qt : Bool} {x y : Str} {q q2 pos pos2 : Pos} {e : Expr} {f : DS → Option ER} (hG : G.K = E.K) (hx : x = Str.ofString "list") (hg : glOk p x = true) (hm : E.mg x = none) (hy : y = Str.ofString "reversed") (hgy : glOk p y = true) (hmy : E.mg y = none) (ha : JE E G p vw qt e f) (hv : vw = true → qt = true := by decide) (hh : p.hot = false := by rfl)
    (hs : StarNo e [] := by exact fun _ => rfl) (hs2 : StarNo (.Call (.Name y q2) [e] [] pos2) [] := by exact fun _ => rfl) : JE E G p false qt (.Call (.Name x q) [.Call (.Name y q2) [e] [] pos2] [] pos) (evOp gRev (evCons vw true f evNil)) := fun X W hA hT => by
  subst hx hy
  obtain ⟨g1, _, _⟩ := at_gl hg hA
  obtain ⟨g2, _, _⟩ := at_gl hgy hA
  refine PE.mono (pe_lstRev (hA.calm hh) g1 (by rw [hA.mg]; exact hm) g2 (by rw [hA.mg]; exact hmy) (ha X W hA hT) (hs _) (hs2 _)) ?_
  have := rd_rev (G := G) (W := W) (f := f) hv
  rw [hG, ← hA.K] at this
  exact this
/-! slices -/
def boV : Option Int → V
  | none => .non
  | some i => .int i
theorem bndV {Z S : AS} {H : Hp} {d : D} {A : AS} {o lo : Option Int} (r : Rep G Z S H d (boV o) A) (h : bnd d = some lo) : lo = o := by
  cases o with
  | none =>
    cases d with
    | non => cases h; rfl
    | int i => have := r.intV; cases this
    | _ => cases h
  | some i =>
    cases d with
    | non => have := r.nonV; cases this
    | int j => have := r.intV; cases this; cases h; rfl
    | _ => cases h
theorem cutD_at {R : D → V → Prop} {xs : List D} {vs : List V} {lo hi : Option Int} (hl : xs.length = vs.length) (he : ∀ (i : Nat) d w, xs[i]? = some d → vs[i]? = some w → R d w) : (cutD xs lo hi).length = (cutV vs lo hi).length ∧ ∀ (i : Nat) d w, (cutD xs lo hi)[i]? = some d → (cutV vs lo hi)[i]? = some w → R d w := by
  unfold cutD cutV
  rw [← hl]
  refine ⟨by simp [hl], fun i d w e1 e2 => ?_⟩
  by_cases hi : i < HT.sIx xs.length xs.length hi - HT.sIx xs.length 0 lo
  · rw [List.getElem?_take_of_lt hi, List.getElem?_drop] at e1 e2
    exact he _ d w e1 e2
  · rw [List.getElem?_eq_none (by simp; omega)] at e1; cases e1
theorem ok_slice (h : XO G X) : SlR X fun x lo hi H Q => rOf G gSlice [x, boV lo, boV hi] H Q := by
  have key : ∀ x lo hi H Q, rOf G gSlice [x, boV lo, boV hi] H Q → rSlL X.K x lo hi H Q ∨ rSlS x lo hi H Q := by
    rintro x lo hi H Q ⟨Z, S, ds, d, zs, ⟨al, av⟩, e, k⟩
    match ds, al with
    | [d1, a, b], _ =>
      obtain ⟨A1, r1⟩ := av 0 d1 x rfl rfl
      obtain ⟨A2, r2⟩ := av 1 a _ rfl rfl
      obtain ⟨A3, r3⟩ := av 2 b _ rfl rfl
      cases d1 with
      | lst m xs =>
        simp only [gSlice] at e
        by_cases hs : shal m = true
        · rw [if_pos hs] at e
          cases h2 : bnd a with
          | none => rw [h2] at e; cases e
          | some l =>
            cases h3 : bnd b with
            | none => rw [h2, h3] at e; cases e
            | some u =>
              rw [h2, h3] at e
              cases e
              have := bndV r2 h2
              have := bndV r3 h3
              subst l u
              obtain ⟨p, vs, rfl, sq, hl, he, _, hf⟩ := r1.lstV
              rw [← h.K] at sq
              obtain ⟨c1, c2⟩ := cutD_at (lo := lo) (hi := hi) hl (hf hs)
              exact .inl ⟨p, vs, rfl, sq, fun l hn => k.lst zs c1 c2 hn⟩
        · rw [if_neg hs] at e; cases e
      | str z =>
        simp only [gSlice] at e
        by_cases hs : z.length ≤ sizeLine
        · rw [if_pos hs] at e
          cases h2 : bnd a with
          | none => rw [h2] at e; cases e
          | some l =>
            cases h3 : bnd b with
            | none => rw [h2, h3] at e; cases e
            | some u =>
              rw [h2, h3] at e
              cases e
              have := bndV r2 h2
              have := bndV r3 h3
              subst l u
              rw [r1.strV]
              exact .inr ⟨z, rfl, hs, k.str⟩
        · rw [if_neg hs] at e; cases e
      | _ => cases e
    | [], hl => simp at hl
    | [_], hl => simp at hl
    | [_, _], hl => simp at hl
    | _ :: _ :: _ :: _ :: _, hl => simp at hl
  intro pins s σ H x v vl vu lo hi sl Q I rx hs pl pu q
  exact (sl_list.or sl_str) pins s σ H x v vl vu lo hi sl Q I rx hs pl pu (key x lo hi H Q q)
def isInt : D → Bool
  | .int _ => true
  | _ => false
theorem rd_intG {vw qt : Bool} {f : DS → Option ER} {te : TE} (ha : ∀ σ H Q, rdE G W vw qt f σ H Q → te σ H Q) : ∀ σ H Q, rdE G W vw qt (evGuard isInt f) σ H Q → te σ H fun x H1 => ∃ i, x = .int i ∧ Q (.int i) H1 := by
  rintro σ H Q ⟨δ, Z, S, FS, sr, ⟨w, hf⟩, ok, ex⟩
  unfold evGuard at hf ok ex
  refine ha σ H _ ⟨δ, Z, S, FS, sr, ?_, fun d δ' h v H' Z' FS' A p => ?_, fun x δ' h => ?_⟩
  · cases q : f δ with
    | none => rw [q] at hf; cases hf
    | some w => exact ⟨w, rfl⟩
  · rw [h] at hf ok
    simp only at hf ok
    by_cases hi : isInt d = true
    · rw [if_pos hi] at hf ok
      cases d with
      | int i =>
        have := p.rep.intV
        subst this
        exact ⟨i, rfl, ok _ _ rfl _ _ _ _ _ p⟩
      | _ => cases hi
    · rw [if_neg hi] at hf; cases hf
  · rw [h] at ex
    exact ex x δ' rfl
/-- a part of a slice -/
inductive JB (E : En) (G : GC) (p : Pl) : Bool → Bool → Option Expr → (DS → Option ER) → Prop
  | no : JB E G p false true none (evCst .non)
  | some {v q : Bool} {e : Expr} {f : DS → Option ER} (h : JE E G p v q e f) : JB E G p v q (some e) (evGuard isInt f)
theorem JB.go {v q : Bool} {o : Option Expr} {f : DS → Option ER} (h : JB E G p v q o f) {W : WX} (hA : At E p X) (hT : Takes X W) : ∃ (t : TE) (tl : TO), PO X o tl ∧ (∀ σ H Q, rdE G W v q f σ H Q → t σ H Q) ∧ (∀ σ H (K : V → Hp → Prop), t σ H K → tl σ H fun l H1 => K (boV l) H1) ∧ ∀ σ H (K K' : Option Int → Hp → Prop), (∀ l H, K l H → K' l H) → tl σ H K → tl σ H K' := by
  cases h with
  | no => exact ⟨tC .non, tNoPart, po_none, rd_cst fun _ _ => .non, fun σ H K h => h, fun σ H K K' m h => m _ _ h⟩
  | @some _ _ e f h => exact ⟨fun σ H Q => rdE G W v q f σ H fun x H1 => ∃ i, x = .int i ∧ Q (.int i) H1, tPart (rdE G W v q f), po_some (h X W hA hT), rd_intG fun _ _ _ h => h, fun σ H K h => rdE.mono (fun x H1 ⟨i, e, q⟩ => ⟨i, e, q⟩) h, fun σ H K K' m h => rdE.mono (fun x H1 ⟨i, e, q⟩ => ⟨i, e, m _ _ q⟩) h⟩
theorem j_sliceV {i : Nat} {x : Str} {v1 q1 v2 q2 : Bool} {q p2 pos : Pos} {lo hi : Option Expr} {fl fu : DS → Option ER} (hG : G.K = E.K) (h : nmOk p i x = true) (hl : JB E G p v1 q1 lo fl) (hu : JB E G p v2 q2 hi fu) (hv1 : v1 = true → q1 = true := by decide) (hv2 : v2 = true → q2 = true := by decide) :
    JE E G p false (q1 && (q2 && true)) (.Subscript (.Name x q) (.Slice lo hi none p2) pos) (evOp gSlice (evDefer i (evCons v1 (q2 && true) fl (evCons v2 true fu evNil)))) := fun X W hA hT => by
  obtain ⟨t1, tl, P1, R1, M1, m1⟩ := hl.go hA hT
  obtain ⟨t2, th, P2, R2, M2, m2⟩ := hu.go hA hT
  refine PE.mono (pe_slice (ok_slice (hA.xo hG)) (at_pe h hA) P1 P2) fun σ H Q h => ?_
  have h1 := rd_op (G := G) (W := W) (snd_of G gSlice) (rd_defer (i := i) (rd_cons R1 (rd_cons R2 rd_nil hv2) hv1)) σ H Q h
  obtain ⟨v, ev, h1⟩ := h1
  exact ⟨v, ev, m1 _ _ _ _ (fun l H1 h => M2 _ _ (fun u H2 => rOf G gSlice [v, boV l, u] H2 Q) h) (M1 _ _ _ h1)⟩
theorem j_sliceE {v0 q0 v1 q1 v2 q2 : Bool} {e : Expr} {p2 pos : Pos} {lo hi : Option Expr} {fe fl fu : DS → Option ER} (hG : G.K = E.K) (h : JE E G p v0 q0 e fe) (hl : JB E G p v1 q1 lo fl) (hu : JB E G p v2 q2 hi fu) (hv0 : v0 = true → q0 = true := by decide) (hv1 : v1 = true → q1 = true := by decide) (hv2 : v2 = true → q2 = true := by decide) :
    JE E G p false (q0 && (q1 && (q2 && true))) (.Subscript e (.Slice lo hi none p2) pos) (evOp gSlice (evCons v0 (q1 && (q2 && true)) fe (evCons v1 (q2 && true) fl (evCons v2 true fu evNil)))) := fun X W hA hT => by
  obtain ⟨t1, tl, P1, R1, M1, m1⟩ := hl.go hA hT
  obtain ⟨t2, th, P2, R2, M2, m2⟩ := hu.go hA hT
  refine PE.mono (pe_slice (ok_slice (hA.xo hG)) (h X W hA hT) P1 P2) fun σ H Q h => ?_
  have h1 := rd_op (G := G) (W := W) (snd_of G gSlice) (rd_cons (fa := fe) (ta := rdE G W v0 q0 fe) (fun _ _ _ h => h) (rd_cons R1 (rd_cons R2 rd_nil hv2) hv1) hv0) σ H Q h
  exact rdE.mono (fun v H0 h1 => m1 _ _ _ _ (fun l H1 h => M2 _ _ (fun u H2 => rOf G gSlice [v, boV l, u] H2 Q) h) (M1 _ _ _ h1)) h1
/-! a list unpacked -/
theorem rd_asgL {vw qt : Bool} {is : List Nat} {f : DS → Option ER} {te : TE} (h : ∀ i ∈ is, i < n ∧ i ∉ pn) (ha : ∀ σ H Q, rdE G W vw qt f σ H Q → te σ H Q) : ∀ D σ H, rdS G W n pn (evAsgL is f) D σ H → tAsg te (gLst G.K is.length (gNames is)) D σ H := by
  rintro D σ H ⟨hn, δ, Z, S, FS, sr, r, hr, w⟩
  unfold evAsgL at hr
  refine ha σ H _ ⟨δ, Z, S, FS, sr, ?_, fun d δ' h' v H' Z' FS' A q => ?_, fun x δ' h' c dd H' Z' FS' q => ?_⟩
  · cases q : f δ with
    | none => rw [q] at hr; cases hr
    | some w => exact ⟨w, rfl⟩
  · rw [h'] at hr
    simp only at hr
    cases d with
    | lst m ds =>
      simp only at hr
      split at hr
      · rename_i hs
        cases e : tgNames is ds δ' with
        | none => rw [e] at hr; cases hr
        | some δ2 =>
          rw [e] at hr
          cases hr
          obtain ⟨a, vs, rfl, sq, hl, _, _, hf⟩ := q.rep.lstV
          have len : ∀ (is : List Nat) (ds : List PD.D) (δ δ' : DS), tgNames is ds δ = some δ' → is.length = ds.length := by
            intro is
            induction is with
            | nil => intro ds δ δ' e; cases ds with
              | nil => rfl
              | cons _ _ => simp [tgNames] at e
            | cons i is ih => intro ds δ δ' e; cases ds with
              | nil => simp [tgNames] at e
              | cons d ds => simp only [List.length_cons]; rw [ih ds _ _ e]
          refine ⟨a, vs, rfl, sq, by rw [← hl, len is ds _ _ e], ?_⟩
          exact tg_names is h ds vs Z' S H' δ' σ FS' δ2 hn q.b.sr hl (hf hs) e _ fun σ' FS2 sr2 own pin => w.nx _ rfl σ' H' Z' FS2 ⟨sr2, q.b.st.sub own, pin⟩
      · cases hr
    | _ => cases hr
  · rw [h'] at hr; cases hr
    exact w.ex x _ rfl c dd σ H' Z' FS' q.q
theorem s_asgL {vw qt : Bool} {is : List Nat} {es : List Expr} {k : Nat} {e : Expr} {pos tp : Pos} {f : DS → Option ER} (hG : G.K = E.K) (ht : JNs E p n pn es is) (ha : JE E G p vw qt e f) (hh : p.hot = false := by rfl) (h1 : ∀ env, (assignEach es env).length = is.length := by exact fun _ => rfl) (h1' : ∀ env, (assignEach es env).findIdx? (fun x => x.1) = none := by exact fun _ => rfl)
    (h2 : ∀ env : Env, swapsWithSole [.Tuple es k tp] e pos.line env = pure false := by exact fun _ => rfl) (h3 : ∀ env : Env, swappedStores [.Tuple es k tp] e env = pure none := by exact fun _ => rfl)
    (h4 : ∀ env : Env, (assignEach [.Tuple es k tp] env).map (fun x => x.2) = [assign (.Tuple es k tp) env] := by exact fun _ => rfl) : JS E G p n pn (.Assign [.Tuple es k tp] e pos) (evAsgL is f) := fun X W hA hT _ => by
  have P := pg_lst (X := X) (pos := tp) (k := k) (hA.calm hh) (ht.2 X hA) (h1 _) (h1' _)
  rw [hA.K, ← hG] at P
  exact PS.mono (ps_asg (ha X W hA hT) P (h2 _) (h3 _) (h4 _)) (rd_asgL ht.1 fun _ _ _ h => h)
/-! a receiver that is made -/
theorem rd_recvT {c : Nat} {m : Str} {qt : Bool} {f : DS → Option ER} {te : TE} (hm : ∀ k, G.fld k ≠ m) (ha : ∀ σ H Q, rdE G W false qt f σ H Q → te σ H Q) :
    ∀ σ H Q, rdE G W false qt (evGuard (isIns c) f) σ H Q → te σ H fun x H1 => ∃ a dx fs, x = .ref a ∧ H1 a = some (.ins (G.cls c) dx fs) ∧ fs.lookup m = none ∧ Q x H1 := by
  rintro σ H Q ⟨δ, Z, S, FS, sr, ⟨w, hf⟩, ok, ex⟩
  unfold evGuard at hf ok ex
  refine ha σ H _ ⟨δ, Z, S, FS, sr, ?_, fun d δ' h v H' Z' FS' A p => ?_, fun x δ' h => ?_⟩
  · cases q : f δ with
    | none => rw [q] at hf; cases hf
    | some w => exact ⟨w, rfl⟩
  · rw [h] at hf ok
    simp only at hf ok
    by_cases hi : isIns c d = true
    · rw [if_pos hi] at hf ok
      cases d with
      | ins m0 c' fs =>
        have hcc : c' = c := by simpa [isIns] using hi
        obtain ⟨a, dx, gs, rfl, hh, hl, _⟩ := p.rep.insV
        rw [hcc] at hh
        exact ⟨a, dx, gs, rfl, hh, lookup_no hm hl, ok _ _ rfl _ _ _ _ _ p⟩
      | _ => cases hi
    · rw [if_neg hi] at hf; cases hf
  · rw [h] at ex
    exact ex x δ' rfl
theorem rd_methT {F : FD} {c : Nat} {m : Str} {ks : List Bool} {q0 qr : Bool} {dds : List D} {dvs : List V} {fo : DS → Option ER} {fr : DS → Option EA} {te : TE} {tr : TA} (hm : ∀ k, G.fld k ≠ m) (hd : Cst G dds dvs) (ho : ∀ σ H Q, rdE G W false q0 fo σ H Q → te σ H Q) (ha : ∀ σ H Q, rdA G W ks qr fr σ H Q → tr σ H Q) :
    ∀ σ H Q, rdE G W false (q0 && qr) (evCall F (false :: ks) dds (evCons false qr (evGuard (isIns c) fo) fr)) σ H Q → tMethSD (G.cls c) m (spF G F) dvs (fun σ => WE W σ) te tr σ H Q := fun σ H Q h =>
  rd_call (G := G) (W := W) (F := F) (ks := false :: ks) (qt := q0 && qr) hd (tr := tCons (fun σ H Q => te σ H fun x H1 => ∃ a dx fs, x = .ref a ∧ H1 a = some (.ins (G.cls c) dx fs) ∧ fs.lookup m = none ∧ Q x H1) tr)
    (fun σ H Q h => rd_cons (qa := q0) (vw := false) (G := G) (W := W) (rd_recvT (c := c) hm ho) ha (fun z => Bool.noConfusion z) σ H Q h) σ H Q h
theorem j_methT {c k : Nat} {m : Str} {F : FD} {dds : List D} {ks : List Bool} {q0 qt : Bool} {a pos : Pos} {o e : Expr} {es : List Expr} {fo : DS → Option ER} {fr : DS → Option EA} {pl : Env → PySem.Sem Bool} (h : FdM E G c m k F dds) (hk : k ≤ p.k) (ho : JE E G p false q0 o fo) (ha : JA E G p ks qt (e :: es) fr) (ht : MethEv o m a pos (e :: es) pl) (hh : p.hot = false := by rfl) (hs : StarNo e es := by exact fun _ => rfl) (hs2 : NoStar es := by exact fun _ _ => rfl) :
    JE E G p false (q0 && qt) (.Call (.Attribute o m a) (e :: es) [] pos) (evCall F (false :: ks) dds (evCons false qt (evGuard (isIns c) fo) fr)) := fun X W hA hT =>
  let ⟨_, h6, h8, hp⟩ := at_meth h hk hA hT hh (ho X W hA hT) (ha X W hA hT) hs hs2 ht
  PE.mono hp (rd_methT h8 h6 (fun _ _ _ h => h) fun _ _ _ h => h)
theorem j_methT0 {c k : Nat} {m : Str} {F : FD} {dds : List D} {q0 : Bool} {a pos : Pos} {o : Expr} {fo : DS → Option ER} {pl : Env → PySem.Sem Bool} (h : FdM E G c m k F dds) (hk : k ≤ p.k) (ho : JE E G p false q0 o fo) (ht : MethEv o m a pos [] pl) (hh : p.hot = false := by rfl) :
    JE E G p false (q0 && true) (.Call (.Attribute o m a) [] [] pos) (evCall F [false] dds (evCons false true (evGuard (isIns c) fo) evNil)) := fun X W hA hT =>
  let ⟨_, h6, h8, hp⟩ := at_meth0 h hk hA hT hh (ho X W hA hT) ht
  PE.mono hp (rd_methT h8 h6 (fun _ _ _ h => h) rd_nil)
end
end PD
/-! P, part 41: instances, slices, while told forwards. -/
namespace PD
open PySem L2
def insOf (c : Nat) : D → Option (List (Nat × D))
  | .ins _ c' fs => if c' = c then some fs else none
  | _ => none
def insO (c : Nat) : D → Option (List (Nat × D))
  | .ins .oo c' fs => if c' = c then some fs else none
  | _ => none
def lstS : D → Option (List D)
  | .lst m xs => if shal m then some xs else none
  | _ => none
def mkQ (r : RR D) (δr δ' : DS) (Q : RR D → DS → Prop) : Prop := match r with
  | .ex x => Q (.ex x) δ'
  | .ok d => match d with
    | .non => has (hd0 δr) fun r => Q (.ok r) δ'
    | _ => False
section
variable {Q : RR D → DS → Prop} {QS : Out → DS → Prop} {δ : DS}
theorem hasM {α β : Type} {o : Option α} {h : α → Option (β × DS)} {Q : β → DS → Prop} : (∃ r δ2, (match o with | none => none | some a => h a) = some (r, δ2) ∧ Q r δ2) = has o fun a => ∃ r δ2, h a = some (r, δ2) ∧ Q r δ2 := by
  cases o with
  | none => rw [has_none]; exact ex2n
  | some a => rw [has_some]
theorem e_attr {c k : Nat} {f : DS → Option ER} : GE (evAttr c k f) δ Q = GE f δ (kk (fun d δ' => has (insOf c d) fun fs => has (lkN k fs) fun e => Q (.ok e) δ') Q) := by
  refine Eq.trans (bindG (h := fun d δ' => match d with
    | .ins _ c' fs => if c' = c then (match lkN k fs with
      | some e => some (.ok e, δ')
      | none => none) else none
    | _ => none) (by unfold evAttr; rcases f δ with _ | ⟨_ | _, _⟩ <;> rfl)) (congrArg _ (kkc fun d δ' => ?_))
  cases d with
  | ins m c' fs =>
    simp only [insOf]
    by_cases h : c' = c
    · simp only [if_pos h, has_some]
      cases lkN k fs with
      | none => rw [has_none]; exact ex2n
      | some e => rw [has_some]; exact ex2
    · simp only [if_neg h, has_none]
      exact ex2n
  | _ => rw [show insOf c _ = none from rfl, has_none]; exact ex2n
theorem insOf_s {m : Fl} {c : Nat} {fs : List (Nat × D)} : insOf c (.ins m c fs) = some fs := if_pos rfl
theorem insO_s {c : Nat} {fs : List (Nat × D)} : insO c (.ins .oo c fs) = some fs := if_pos rfl
theorem slI {i c : Nat} {β : Type} {g : List (Nat × D) → Option (β × DS)} {Q : β → DS → Prop} : (∃ r δ2, (match δ[i]? with | some (some (.ins .oo c' fs)) => if c' = c then g fs else none | _ => none) = some (r, δ2) ∧ Q r δ2) = sl δ i fun d => has (insO c d) fun fs => ∃ r δ2, g fs = some (r, δ2) ∧ Q r δ2 := by
  unfold sl
  cases e : δ[i]? with
  | none => exact Eq.trans ex2n (propext ⟨False.elim, fun ⟨_, e, _⟩ => (by cases e)⟩)
  | some o =>
    cases o with
    | none => exact Eq.trans ex2n (propext ⟨False.elim, fun ⟨_, e, _⟩ => (by cases e)⟩)
    | some d =>
      refine Eq.trans ?_ (show has (insO c d) _ = _ from propext ⟨fun h => ⟨d, rfl, h⟩, fun ⟨_, e, h⟩ => (by cases e; exact h)⟩)
      cases d with
      | ins m c' fs =>
        cases m with
        | oo =>
          by_cases h : c' = c
          · rw [show insO c (.ins .oo c' fs) = some fs from if_pos h, has_some]
            simp only [if_pos h]
          · rw [show insO c (.ins .oo c' fs) = none from if_neg h, has_none]
            simp only [if_neg h]
            exact ex2n
        | _ => rw [show insO c _ = none from rfl, has_none]; exact ex2n
      | _ => rw [show insO c _ = none from rfl, has_none]; exact ex2n
theorem g_setF {i c k : Nat} {f : DS → Option ER} : Go (evSetF i c k f) δ QS = GE f δ (kS (fun d δ' => sl δ' i fun d0 => has (insO c d0) fun fs => fs.length < 1000 ∧ QS .nx (st δ' i (some (.ins .oo c (putN k d fs))))) QS) := by
  refine Eq.trans (bindS (h := fun d δ' => match δ'[i]? with
    | some (some (.ins .oo c' fs)) => if c' = c ∧ fs.length < 1000 then some (.nx, δ'.set i (some (.ins .oo c (putN k d fs)))) else none
    | _ => none) (by unfold evSetF; rcases f δ with _ | ⟨_ | _, _⟩ <;> rfl)) (congrArg _ (kSc fun d δ' => ?_))
  refine Eq.trans ?_ (Eq.trans (slI (δ := δ') (i := i) (c := c) (Q := QS) (g := fun fs => if fs.length < 1000 then some (.nx, δ'.set i (some (.ins .oo c (putN k d fs)))) else none)) ?_)
  · congr 1; funext r; congr 1; funext δ2; congr 1
    split
    · rename_i c' fs e
      by_cases h : c' = c <;> by_cases h2 : fs.length < 1000 <;> simp [h, h2]
    · rfl
  · refine congrArg _ (funext fun d0 => congrArg _ (funext fun fs => ?_))
    rw [iteN, ex2, st_eq]
theorem g_appF {i c k : Nat} {f : DS → Option ER} : Go (evAppF i c k f) δ QS = sl δ i fun d0 => has (insO c d0) fun fs0 => has (lkN k fs0) fun l0 => has (lstO l0) fun _ => GE f δ (kS (fun d δ' => sl δ' i fun d1 => has (insO c d1) fun fs => has (lkN k fs) fun l => has (lstO l) fun xs => xs.length < 1000000 ∧ QS .nx (st δ' i (some (.ins .oo c (putN k (.lst .o (xs ++ [cap d])) fs))))) QS) := by
  have inner : ∀ (fs : List (Nat × D)) {β : Type} (g : List D → Option (β × DS)) (Q : β → DS → Prop), (∃ r δ2, (match lkN k fs with | some (.lst .o xs) => g xs | _ => none) = some (r, δ2) ∧ Q r δ2) = has (lkN k fs) fun l => has (lstO l) fun xs => ∃ r δ2, g xs = some (r, δ2) ∧ Q r δ2 := by
    intro fs β g Q
    cases lkN k fs with
    | none => rw [has_none]; exact ex2n
    | some l =>
      rw [has_some]
      cases l with
      | lst m xs =>
        cases m with
        | o => rw [show lstO (.lst .o xs) = some xs from rfl, has_some]
        | _ => rw [show lstO _ = none from rfl, has_none]; exact ex2n
      | _ => rw [show lstO _ = none from rfl, has_none]; exact ex2n
  refine Eq.trans (slI (β := Out) (δ := δ) (i := i) (c := c) (Q := QS) (g := fun fs0 => match lkN k fs0 with
    | some (.lst .o _) => (match f δ with
      | none => none
      | some (.ex x, δ') => some (.ex x, δ')
      | some (.ok d, δ') => match δ'[i]? with
        | some (some (.ins .oo c' fs)) => if c' = c then (match lkN k fs with
          | some (.lst .o xs) => if xs.length < 1000000 then some (.nx, δ'.set i (some (.ins .oo c (putN k (.lst .o (xs ++ [cap d])) fs)))) else none
          | _ => none) else none
        | _ => none)
    | _ => none)) ?_
  refine congrArg _ (funext fun d0 => congrArg _ (funext fun fs0 => ?_))
  refine Eq.trans (inner fs0 (fun _ => (match f δ with
      | none => none
      | some (.ex x, δ') => some (.ex x, δ')
      | some (.ok d, δ') => match δ'[i]? with
        | some (some (.ins .oo c' fs)) => if c' = c then (match lkN k fs with
          | some (.lst .o xs) => if xs.length < 1000000 then some (.nx, δ'.set i (some (.ins .oo c (putN k (.lst .o (xs ++ [cap d])) fs)))) else none
          | _ => none) else none
        | _ => none)) QS) ?_
  refine congrArg _ (funext fun l0 => congrArg _ (funext fun xs0 => ?_))
  refine Eq.trans (bindS (f := f) (f' := fun δ => match f δ with
      | none => none
      | some (.ex x, δ') => some (.ex x, δ')
      | some (.ok d, δ') => match δ'[i]? with
        | some (some (.ins .oo c' fs)) => if c' = c then (match lkN k fs with
          | some (.lst .o xs) => if xs.length < 1000000 then some (.nx, δ'.set i (some (.ins .oo c (putN k (.lst .o (xs ++ [cap d])) fs)))) else none
          | _ => none) else none
        | _ => none) (h := fun d δ' => match δ'[i]? with
        | some (some (.ins .oo c' fs)) => if c' = c then (match lkN k fs with
          | some (.lst .o xs) => if xs.length < 1000000 then some (.nx, δ'.set i (some (.ins .oo c (putN k (.lst .o (xs ++ [cap d])) fs)))) else none
          | _ => none) else none
        | _ => none) (by rcases f δ with _ | ⟨_ | _, _⟩ <;> rfl)) (congrArg _ (kSc fun d δ' => ?_))
  refine Eq.trans (slI (δ := δ') (i := i) (c := c) (Q := QS) (g := fun fs => match lkN k fs with
          | some (.lst .o xs) => if xs.length < 1000000 then some (.nx, δ'.set i (some (.ins .oo c (putN k (.lst .o (xs ++ [cap d])) fs)))) else none
          | _ => none)) ?_
  refine congrArg _ (funext fun d1 => congrArg _ (funext fun fs => ?_))
  refine Eq.trans (inner fs (fun xs => if xs.length < 1000000 then some (.nx, δ'.set i (some (.ins .oo c (putN k (.lst .o (xs ++ [cap d])) fs)))) else none) QS) ?_
  refine congrArg _ (funext fun l => congrArg _ (funext fun xs => ?_))
  rw [iteN, ex2, st_eq]
theorem slJ {i c : Nat} {β : Type} {o : Option (β × DS)} {Q : β → DS → Prop} : (∃ r δ2, (match δ[i]? with | some (some (.ins _ c' _)) => if c' = c then o else none | _ => none) = some (r, δ2) ∧ Q r δ2) = sl δ i fun d => isIns c d = true ∧ ∃ r δ2, o = some (r, δ2) ∧ Q r δ2 := by
  unfold sl
  cases e : δ[i]? with
  | none => exact Eq.trans ex2n (propext ⟨False.elim, fun ⟨_, e, _⟩ => (by cases e)⟩)
  | some u =>
    cases u with
    | none => exact Eq.trans ex2n (propext ⟨False.elim, fun ⟨_, e, _⟩ => (by cases e)⟩)
    | some d =>
      refine Eq.trans ?_ (show (isIns c d = true ∧ _) = _ from propext ⟨fun h => ⟨d, rfl, h⟩, fun ⟨_, e, h⟩ => (by cases e; exact h)⟩)
      cases d with
      | ins m c' fs =>
        by_cases h : c' = c <;> simp [isIns, h]
      | _ => simp [isIns]
theorem e_meth {c i : Nat} {F : FD} {ks : List Bool} {dds : List D} {fr : DS → Option EA} : GE (evMeth c i F ks dds fr) δ Q = sl δ i fun d => isIns c d = true ∧ GE (evCall F (true :: ks) dds (evDefer i fr)) δ Q := slJ
theorem e_methM {c i : Nat} {F : FD} {ks : List Bool} {dds : List D} {fr : DS → Option EA} : GE (evMethM c i F ks dds fr) δ Q = sl δ i fun d => isIns c d = true ∧ GE (evCallM F i ks dds fr) δ Q := slJ
theorem isIns_s {m : Fl} {c : Nat} {fs : List (Nat × D)} : isIns c (.ins m c fs) = true := by simp [isIns]
theorem e_make {c : Nat} {F : FD} {ks : List Bool} {dds : List D} {fa : DS → Option EA} : GE (evMake c F ks dds fa) δ Q = GE fa δ (kk (fun ds δ' => has (F (.ins .oo c [] :: (argD ks ds ++ dds))) fun r => mkQ r.1 r.2 δ' Q) Q) := by
  refine Eq.trans (bindG (h := fun ds δ' => match F (.ins .oo c [] :: (argD ks ds ++ dds)) with
    | none => none
    | some (.ex x, _) => some (.ex x, δ')
    | some (.ok d, δr) => match d with
      | .non => (match hd0 δr with
        | some r => some (.ok r, δ')
        | none => none)
      | _ => none) (by unfold evMake; rcases fa δ with _ | ⟨_ | _, _⟩ <;> rfl)) (congrArg _ (kkc fun ds δ' => ?_))
  cases F (.ins .oo c [] :: (argD ks ds ++ dds)) with
  | none => rw [has_none]; exact ex2n
  | some r =>
    obtain ⟨r, δr⟩ := r
    rw [has_some]
    cases r with
    | ex x => exact ex2
    | ok d =>
      cases d with
      | non =>
        show _ = has (hd0 δr) _
        simp only
        cases hd0 δr with
        | none => rw [has_none]; exact ex2n
        | some r => rw [has_some]; exact ex2
      | _ => exact ex2n
theorem mkQ_ok {δr δ' : DS} : mkQ (.ok .non) δr δ' Q = has (hd0 δr) fun r => Q (.ok r) δ' := rfl
theorem mkQ_ex {δr δ' : DS} {x : Xc} : mkQ (.ex x) δr δ' Q = Q (.ex x) δ' := rfl
theorem g_asgL {is : List Nat} {f : DS → Option ER} : Go (evAsgL is f) δ QS = GE f δ (kS (fun d δ' => has (lstS d) fun xs => has (tgNames is xs δ') fun δ2 => QS .nx δ2) QS) := by
  refine Eq.trans (bindS (h := fun d δ' => match d with
    | .lst m xs => if shal m then (match tgNames is xs δ' with
      | some δ2 => some (.nx, δ2)
      | none => none) else none
    | _ => none) (by unfold evAsgL; rcases f δ with _ | ⟨_ | _, _⟩ <;> rfl)) (congrArg _ (kSc fun d δ' => ?_))
  cases d with
  | lst m xs =>
    simp only [lstS]
    by_cases h : shal m = true
    · simp only [if_pos h, has_some]
      cases tgNames is xs δ' with
      | none => rw [has_none]; exact ex2n
      | some e => rw [has_some]; exact ex2
    · simp only [if_neg h, has_none]
      exact ex2n
  | _ => rw [show lstS _ = none from rfl, has_none]; exact ex2n
theorem lstS_o {xs : List D} : lstS (.lst .o xs) = some xs := rfl
theorem lstS_l {xs : List D} : lstS (.lst .l xs) = some xs := rfl
theorem lstS_f {xs : List D} : lstS (.lst .f xs) = some xs := rfl
theorem whl_s {t : DS → Option EB} {body : DS → Option ES} {k : Nat} : Go (evWhl t body (k + 1)) δ QS = GE t δ (kS (fun b δ1 => if b = true then Go body δ1 (kL (fun δ2 => Go (evWhl t body k) δ2 QS) (fun r => QS r.1 r.2)) else QS .nx δ1) QS) := by
  refine Eq.trans (bindS (f := t) (f' := fun δ => evWhl t body (k + 1) δ) (h := fun b δ1 => if b = true then (match body δ1 with
        | none => none
        | some (.nx, δ2) => evWhl t body k δ2
        | some (.ct, δ2) => evWhl t body k δ2
        | some (.bk, δ2) => some (.nx, δ2)
        | some (.rt v, δ2) => some (.rt v, δ2)
        | some (.ex x, δ2) => some (.ex x, δ2)) else some (.nx, δ1)) (by rw [evWhl]; rcases t δ with _ | ⟨_ | _, _⟩ <;> rfl)) (congrArg _ (kSc fun b δ1 => ?_))
  rw [iteC, ex2]
  refine congrArg (fun z => if b = true then z else _) ?_
  unfold Go
  cases body δ1 with
  | none => simp
  | some w =>
    obtain ⟨o, δ2⟩ := w
    refine Eq.trans ?_ (show kL (fun δ2 => Go (evWhl t body k) δ2 QS) (fun r => QS r.1 r.2) o δ2 = _ from propext ⟨fun q => ⟨_, _, rfl, q⟩, fun ⟨_, _, e, q⟩ => (by cases e; exact q)⟩)
    cases o with
    | nx => rfl
    | ct => rfl
    | bk => exact ex2
    | rt v => exact ex2
    | ex x => exact ex2
end
section
variable {d e : D} {r : List (Nat × D)} {xs : List D} {m : Fl} {c : Nat} {fs : List (Nat × D)}
theorem lk_00 : lkN 0 ((0, d) :: r) = some d := rfl
theorem pu_00 : putN 0 e ((0, d) :: r) = (0, e) :: r := rfl
theorem lk_01 : lkN 0 ((1, d) :: r) = lkN 0 r := rfl
theorem pu_01 : putN 0 e ((1, d) :: r) = (1, d) :: putN 0 e r := rfl
theorem lk_02 : lkN 0 ((2, d) :: r) = lkN 0 r := rfl
theorem pu_02 : putN 0 e ((2, d) :: r) = (2, d) :: putN 0 e r := rfl
theorem lk_03 : lkN 0 ((3, d) :: r) = lkN 0 r := rfl
theorem pu_03 : putN 0 e ((3, d) :: r) = (3, d) :: putN 0 e r := rfl
theorem lk_04 : lkN 0 ((4, d) :: r) = lkN 0 r := rfl
theorem pu_04 : putN 0 e ((4, d) :: r) = (4, d) :: putN 0 e r := rfl
theorem lk_05 : lkN 0 ((5, d) :: r) = lkN 0 r := rfl
theorem pu_05 : putN 0 e ((5, d) :: r) = (5, d) :: putN 0 e r := rfl
theorem lk_06 : lkN 0 ((6, d) :: r) = lkN 0 r := rfl
theorem pu_06 : putN 0 e ((6, d) :: r) = (6, d) :: putN 0 e r := rfl
theorem lk_10 : lkN 1 ((0, d) :: r) = lkN 1 r := rfl
theorem pu_10 : putN 1 e ((0, d) :: r) = (0, d) :: putN 1 e r := rfl
theorem lk_11 : lkN 1 ((1, d) :: r) = some d := rfl
theorem pu_11 : putN 1 e ((1, d) :: r) = (1, e) :: r := rfl
theorem lk_12 : lkN 1 ((2, d) :: r) = lkN 1 r := rfl
theorem pu_12 : putN 1 e ((2, d) :: r) = (2, d) :: putN 1 e r := rfl
theorem lk_13 : lkN 1 ((3, d) :: r) = lkN 1 r := rfl
theorem pu_13 : putN 1 e ((3, d) :: r) = (3, d) :: putN 1 e r := rfl
theorem lk_14 : lkN 1 ((4, d) :: r) = lkN 1 r := rfl
theorem pu_14 : putN 1 e ((4, d) :: r) = (4, d) :: putN 1 e r := rfl
theorem lk_15 : lkN 1 ((5, d) :: r) = lkN 1 r := rfl
theorem pu_15 : putN 1 e ((5, d) :: r) = (5, d) :: putN 1 e r := rfl
theorem lk_16 : lkN 1 ((6, d) :: r) = lkN 1 r := rfl
theorem pu_16 : putN 1 e ((6, d) :: r) = (6, d) :: putN 1 e r := rfl
theorem lk_20 : lkN 2 ((0, d) :: r) = lkN 2 r := rfl
theorem pu_20 : putN 2 e ((0, d) :: r) = (0, d) :: putN 2 e r := rfl
theorem lk_21 : lkN 2 ((1, d) :: r) = lkN 2 r := rfl
theorem pu_21 : putN 2 e ((1, d) :: r) = (1, d) :: putN 2 e r := rfl
theorem lk_22 : lkN 2 ((2, d) :: r) = some d := rfl
theorem pu_22 : putN 2 e ((2, d) :: r) = (2, e) :: r := rfl
theorem lk_23 : lkN 2 ((3, d) :: r) = lkN 2 r := rfl
theorem pu_23 : putN 2 e ((3, d) :: r) = (3, d) :: putN 2 e r := rfl
theorem lk_24 : lkN 2 ((4, d) :: r) = lkN 2 r := rfl
theorem pu_24 : putN 2 e ((4, d) :: r) = (4, d) :: putN 2 e r := rfl
theorem lk_25 : lkN 2 ((5, d) :: r) = lkN 2 r := rfl
theorem pu_25 : putN 2 e ((5, d) :: r) = (5, d) :: putN 2 e r := rfl
theorem lk_26 : lkN 2 ((6, d) :: r) = lkN 2 r := rfl
theorem pu_26 : putN 2 e ((6, d) :: r) = (6, d) :: putN 2 e r := rfl
theorem lk_30 : lkN 3 ((0, d) :: r) = lkN 3 r := rfl
theorem pu_30 : putN 3 e ((0, d) :: r) = (0, d) :: putN 3 e r := rfl
theorem lk_31 : lkN 3 ((1, d) :: r) = lkN 3 r := rfl
theorem pu_31 : putN 3 e ((1, d) :: r) = (1, d) :: putN 3 e r := rfl
theorem lk_32 : lkN 3 ((2, d) :: r) = lkN 3 r := rfl
theorem pu_32 : putN 3 e ((2, d) :: r) = (2, d) :: putN 3 e r := rfl
theorem lk_33 : lkN 3 ((3, d) :: r) = some d := rfl
theorem pu_33 : putN 3 e ((3, d) :: r) = (3, e) :: r := rfl
theorem lk_34 : lkN 3 ((4, d) :: r) = lkN 3 r := rfl
theorem pu_34 : putN 3 e ((4, d) :: r) = (4, d) :: putN 3 e r := rfl
theorem lk_35 : lkN 3 ((5, d) :: r) = lkN 3 r := rfl
theorem pu_35 : putN 3 e ((5, d) :: r) = (5, d) :: putN 3 e r := rfl
theorem lk_36 : lkN 3 ((6, d) :: r) = lkN 3 r := rfl
theorem pu_36 : putN 3 e ((6, d) :: r) = (6, d) :: putN 3 e r := rfl
theorem lk_40 : lkN 4 ((0, d) :: r) = lkN 4 r := rfl
theorem pu_40 : putN 4 e ((0, d) :: r) = (0, d) :: putN 4 e r := rfl
theorem lk_41 : lkN 4 ((1, d) :: r) = lkN 4 r := rfl
theorem pu_41 : putN 4 e ((1, d) :: r) = (1, d) :: putN 4 e r := rfl
theorem lk_42 : lkN 4 ((2, d) :: r) = lkN 4 r := rfl
theorem pu_42 : putN 4 e ((2, d) :: r) = (2, d) :: putN 4 e r := rfl
theorem lk_43 : lkN 4 ((3, d) :: r) = lkN 4 r := rfl
theorem pu_43 : putN 4 e ((3, d) :: r) = (3, d) :: putN 4 e r := rfl
theorem lk_44 : lkN 4 ((4, d) :: r) = some d := rfl
theorem pu_44 : putN 4 e ((4, d) :: r) = (4, e) :: r := rfl
theorem lk_45 : lkN 4 ((5, d) :: r) = lkN 4 r := rfl
theorem pu_45 : putN 4 e ((5, d) :: r) = (5, d) :: putN 4 e r := rfl
theorem lk_46 : lkN 4 ((6, d) :: r) = lkN 4 r := rfl
theorem pu_46 : putN 4 e ((6, d) :: r) = (6, d) :: putN 4 e r := rfl
theorem lk_50 : lkN 5 ((0, d) :: r) = lkN 5 r := rfl
theorem pu_50 : putN 5 e ((0, d) :: r) = (0, d) :: putN 5 e r := rfl
theorem lk_51 : lkN 5 ((1, d) :: r) = lkN 5 r := rfl
theorem pu_51 : putN 5 e ((1, d) :: r) = (1, d) :: putN 5 e r := rfl
theorem lk_52 : lkN 5 ((2, d) :: r) = lkN 5 r := rfl
theorem pu_52 : putN 5 e ((2, d) :: r) = (2, d) :: putN 5 e r := rfl
theorem lk_53 : lkN 5 ((3, d) :: r) = lkN 5 r := rfl
theorem pu_53 : putN 5 e ((3, d) :: r) = (3, d) :: putN 5 e r := rfl
theorem lk_54 : lkN 5 ((4, d) :: r) = lkN 5 r := rfl
theorem pu_54 : putN 5 e ((4, d) :: r) = (4, d) :: putN 5 e r := rfl
theorem lk_55 : lkN 5 ((5, d) :: r) = some d := rfl
theorem pu_55 : putN 5 e ((5, d) :: r) = (5, e) :: r := rfl
theorem lk_56 : lkN 5 ((6, d) :: r) = lkN 5 r := rfl
theorem pu_56 : putN 5 e ((6, d) :: r) = (6, d) :: putN 5 e r := rfl
theorem lk_60 : lkN 6 ((0, d) :: r) = lkN 6 r := rfl
theorem pu_60 : putN 6 e ((0, d) :: r) = (0, d) :: putN 6 e r := rfl
theorem lk_61 : lkN 6 ((1, d) :: r) = lkN 6 r := rfl
theorem pu_61 : putN 6 e ((1, d) :: r) = (1, d) :: putN 6 e r := rfl
theorem lk_62 : lkN 6 ((2, d) :: r) = lkN 6 r := rfl
theorem pu_62 : putN 6 e ((2, d) :: r) = (2, d) :: putN 6 e r := rfl
theorem lk_63 : lkN 6 ((3, d) :: r) = lkN 6 r := rfl
theorem pu_63 : putN 6 e ((3, d) :: r) = (3, d) :: putN 6 e r := rfl
theorem lk_64 : lkN 6 ((4, d) :: r) = lkN 6 r := rfl
theorem pu_64 : putN 6 e ((4, d) :: r) = (4, d) :: putN 6 e r := rfl
theorem lk_65 : lkN 6 ((5, d) :: r) = lkN 6 r := rfl
theorem pu_65 : putN 6 e ((5, d) :: r) = (5, d) :: putN 6 e r := rfl
theorem lk_66 : lkN 6 ((6, d) :: r) = some d := rfl
theorem pu_66 : putN 6 e ((6, d) :: r) = (6, e) :: r := rfl
theorem pu_n {k : Nat} : putN k e [] = [(k, e)] := rfl
theorem l3_0 : (([] : List (Nat × D)).length < 1000) = True := eq_true (by simp)
theorem l3_1 {p0 : Nat × D} : (([p0] : List (Nat × D)).length < 1000) = True := eq_true (by simp)
theorem l3_2 {p0 p1 : Nat × D} : (([p0, p1] : List (Nat × D)).length < 1000) = True := eq_true (by simp)
theorem l3_3 {p0 p1 p2 : Nat × D} : (([p0, p1, p2] : List (Nat × D)).length < 1000) = True := eq_true (by simp)
theorem l3_4 {p0 p1 p2 p3 : Nat × D} : (([p0, p1, p2, p3] : List (Nat × D)).length < 1000) = True := eq_true (by simp)
theorem l3_5 {p0 p1 p2 p3 p4 : Nat × D} : (([p0, p1, p2, p3, p4] : List (Nat × D)).length < 1000) = True := eq_true (by simp)
theorem l3_6 {p0 p1 p2 p3 p4 p5 : Nat × D} : (([p0, p1, p2, p3, p4, p5] : List (Nat × D)).length < 1000) = True := eq_true (by simp)
theorem l3_7 {p0 p1 p2 p3 p4 p5 p6 : Nat × D} : (([p0, p1, p2, p3, p4, p5, p6] : List (Nat × D)).length < 1000) = True := eq_true (by simp)
theorem v_rev : gRev [.lst m xs] = if shal m then some (.lst .o xs.reverse) else none := rfl
theorem lend_ioo : lend (.ins .oo c fs) = .ins .ll c (lendN fs) := rfl
theorem lend_ill : lend (.ins .ll c fs) = .ins .ll c fs := rfl
theorem lend_if : lend (.ins .f c fs) = .ins .f c fs := rfl
theorem lendN_0 : lendN [] = [] := rfl
theorem lendN_s {k : Nat} : lendN ((k, d) :: r) = (k, lend d) :: lendN r := rfl
theorem frzN_0 : frzN [] = [] := rfl
theorem frzN_s {k : Nat} : frzN ((k, d) :: r) = (k, frz d) :: frzN r := rfl
theorem cap_ioo : cap (.ins .oo c fs) = .ins .f c (frzN fs) := rfl
theorem cap_if : cap (.ins .f c fs) = .ins .f c fs := rfl
theorem frz_ioo : frz (.ins .oo c fs) = .ins .f c (frzN fs) := rfl
theorem isF_ioo : isF (.ins .oo c fs) = false := rfl
theorem isF_ill : isF (.ins .ll c fs) = false := rfl
theorem isF_if : isF (.ins .f c fs) = true := rfl
end
end PD
/-! P, part 42: attributes' names by number; methods and classes by their facts. -/
namespace PD
open PySem L2 SX
def fldN (fs : List Str) (i : Nat) : Str := if i < fs.length then fs.getD i Str.empty else S (List.replicate (i + 100) 35)
def fldsOk (fs : List Str) : Bool := fs.all (fun f => decide (f.length < 100)) && decide fs.Nodup
theorem getD_at {fs : List Str} {i : Nat} (hi : i < fs.length) : fs.getD i Str.empty = fs[i] := by
  rw [List.getD_eq_getElem?_getD, List.getElem?_eq_getElem hi]; rfl
theorem S_rep (n : Nat) : (S (List.replicate n 35)).length = n := by rw [S_len, List.length_replicate]
theorem fldN_len {fs : List Str} (h : fldsOk fs = true) {i : Nat} (hi : i < fs.length) : (fldN fs i).length < 100 := by
  unfold fldN
  rw [if_pos hi, getD_at hi]
  exact of_decide_eq_true (List.all_eq_true.mp (Bool.and_eq_true_iff.mp h).1 _ (List.getElem_mem hi))
theorem fldN_far {fs : List Str} {i : Nat} (hi : ¬ i < fs.length) : (fldN fs i).length = i + 100 := by
  unfold fldN
  rw [if_neg hi, S_rep]
theorem fldN_inj {fs : List Str} (h : fldsOk fs = true) : ∀ i j, fldN fs i = fldN fs j → i = j := fun i j e => by
  by_cases hi : i < fs.length <;> by_cases hj : j < fs.length
  · unfold fldN at e
    rw [if_pos hi, if_pos hj, getD_at hi, getD_at hj] at e
    have nd : fs.Nodup := of_decide_eq_true (Bool.and_eq_true_iff.mp h).2
    rcases Nat.lt_trichotomy i j with q | q | q
    · exact absurd e (List.pairwise_iff_getElem.mp nd i j hi hj q)
    · exact q
    · exact absurd e.symm (List.pairwise_iff_getElem.mp nd j i hj hi q)
  · have h1 := fldN_len h hi
    rw [e, fldN_far hj] at h1
    omega
  · have h1 := fldN_len h hj
    rw [← e, fldN_far hi] at h1
    omega
  · have h1 := fldN_far hi
    rw [e, fldN_far hj] at h1
    omega
theorem fldN_ne {fs : List Str} {m : Str} (hl : m.length < 100) (h : (fs.all fun f => !(f == m)) = true) : ∀ k, fldN fs k ≠ m := fun k e => by
  by_cases hk : k < fs.length
  · have h1 := List.all_eq_true.mp h (fldN fs k) (by unfold fldN; rw [if_pos hk, getD_at hk]; exact List.getElem_mem hk)
    rw [e] at h1
    simp at h1
  · have h1 := fldN_far hk
    rw [e] at h1
    omega
def gcF (ns fs : List Str) (K : PySem.W.Frag) : GC := ⟨K, fun i => He.ga K (ns.getD i ""), fldN fs⟩
section
variable {E : En} {G : GC}
theorem fdM_dfl {c : Nat} {m : Str} {k : Nat} {F : FD} {f : Addr} {fd : FuncData} {ps : List Str} {dds : List D} {dvs : List V} (h : FnOk E.P E.w E.K E.mg E.base (CX E.P E.w) k f fd ps (spF G F)) (hm : Meth E.K (G.cls c) m f) (hb : ∃ ds, Vals dvs ds ∧ L2.Binds E.K fd ps ds) (hd : Cst G dds dvs) (hc : Cls E.K (G.cls c)) (hn : ∀ k, G.fld k ≠ m) : FdM E G c m k F dds := by
  obtain ⟨ds, h1, h2⟩ := hb
  exact ⟨f, fd, ps, ds, dvs, h, hm, h2, h1, hd, hc, hn⟩
theorem fdM_all {c : Nat} {m : Str} {k : Nat} {F : FD} {f : Addr} {fd : FuncData} {ps : List Str} (h : FnOk E.P E.w E.K E.mg E.base (CX E.P E.w) k f fd ps (spF G F)) (hm : Meth E.K (G.cls c) m f) (hb : L2.Binds E.K fd ps []) (hc : Cls E.K (G.cls c)) (hn : ∀ k, G.fld k ≠ m) : FdM E G c m k F [] :=
  ⟨f, fd, ps, [], [], h, hm, hb, .nil, cst_nil, hc, hn⟩
theorem fdI_dfl {x : Str} {c k : Nat} {F : FD} {f : Addr} {fd : FuncData} {ps : List Str} {dds : List D} {dvs : List V} (h : FnOk E.P E.w E.K E.mg E.base (CX E.P E.w) k f fd ps (spF G F)) (hm : Mk E.K (G.cls c) f) (hx : E.mg x = some (.ref (G.cls c))) (hb : ∃ ds, Vals dvs ds ∧ L2.Binds E.K fd ps ds) (hd : Cst G dds dvs) : FdI E G x c k F dds := by
  obtain ⟨ds, h1, h2⟩ := hb
  exact ⟨f, fd, ps, ds, dvs, h, hm, hx, h2, h1, hd⟩
theorem fdI_all {x : Str} {c k : Nat} {F : FD} {f : Addr} {fd : FuncData} {ps : List Str} (h : FnOk E.P E.w E.K E.mg E.base (CX E.P E.w) k f fd ps (spF G F)) (hm : Mk E.K (G.cls c) f) (hx : E.mg x = some (.ref (G.cls c))) (hb : L2.Binds E.K fd ps []) : FdI E G x c k F [] :=
  ⟨f, fd, ps, [], [], h, hm, hx, hb, .nil, cst_nil⟩
end
/-- the statements of a class -/
def clsBd : PySem.Stmt → List PySem.Stmt
  | .ClassDef (body := b) .. => b
  | _ => []
end PD
/-! P, part 43: more of what the operations give. -/
namespace PD
open PySem L2
section
variable {xs : List D} {a b c d e f : D} {m : Fl}
theorem lstO_o : lstO (.lst .o xs) = some xs := rfl
theorem at_3 : L2.atI (a :: b :: c :: d :: xs) 3 = some d := by
  have := at_nat (xs := a :: b :: c :: d :: xs) (k := 3) (by simp)
  simpa using this
theorem at_4 : L2.atI (a :: b :: c :: d :: e :: xs) 4 = some e := by
  have := at_nat (xs := a :: b :: c :: d :: e :: xs) (k := 4) (by simp)
  simpa using this
theorem at_5 : L2.atI (a :: b :: c :: d :: e :: f :: xs) 5 = some f := by
  have := at_nat (xs := a :: b :: c :: d :: e :: f :: xs) (k := 5) (by simp)
  simpa using this
theorem v_intB {k : Bool} : gIntOf [.bl k] = some (.int (if k then 1 else 0)) := rfl
end
theorem at_idx {α : Type} {xs : List α} {n : Nat} (h : n < xs.length) : L2.atI xs (n : Int) = some xs[n] := by
  unfold L2.atI L2.ixN
  rw [if_pos (by omega), if_pos (by omega)]
  simp [h]
theorem at_mem {α : Type} (xs : List α) (r : Int) (h : 0 ≤ r) (h2 : r < xs.length) : ∃ a ∈ xs, L2.atI xs r = some a := by
  obtain ⟨n, rfl⟩ := Int.eq_ofNat_of_zero_le h
  have hn : n < xs.length := by omega
  exact ⟨xs[n], List.getElem_mem hn, at_idx hn⟩
theorem str_len {i : Int} {k : Nat} (h0 : 0 ≤ i) (hk : 0 < k) (h : i < 10 ^ k) : (Str.ofString (toString i)).length ≤ k := by
  obtain ⟨n, rfl⟩ := Int.eq_ofNat_of_zero_le h0
  have h2 : n < 10 ^ k := by
    have e : ((10 ^ k : Nat) : Int) = 10 ^ k := by simp
    rw [← e] at h
    exact Int.ofNat_lt.mp h
  have := TL.numL_len hk h2
  rw [TL.len_tl]
  have e := TL.tl_num n
  rw [show TL.tl (Str.ofString (toString ((n : Nat) : Int))) = TL.numL n from e]
  exact this
theorem len_cat (x y : Str) : (x ++ y).length = x.length + y.length := by
  rw [TL.len_tl, TL.tl_append, List.length_append, ← TL.len_tl, ← TL.len_tl]
/-- a text among texts -/
theorem v_inL {m : Fl} {z : Str} {zs : List Str} : gIn [.str z, .lst m (zs.map .str)] = some (.bl (decide (z ∈ zs))) := by
  have e : gIn [.str z, .lst m (zs.map .str)] = if dp 60 (.str z) && dpL 60 (zs.map .str) then some (.bl ((zs.map D.str).any fun y => eqD y (.str z))) else none := rfl
  rw [e, show dp 60 (.str z) = true from rfl, dpL_of (f := D.str) (fun _ => by simp [dp])]
  have : ((zs.map D.str).any fun y => eqD y (.str z)) = decide (z ∈ zs) := by
    rw [Bool.eq_iff_iff]
    simp [eqD_s]
  rw [this]; rfl
/-- a comprehension over a list of a kind that draws: the state goes along -/
theorem has_cmpS {α : Type} {f : α → D} {tg : D → DS → Option DS} {t : DS → Option EB} {fe : DS → Option ER} {vs : List Nat} {K : List D × DS → Prop} (I : Nat → List D → DS → Prop) : ∀ (xs : List α) (acc : List D) (δ : DS), I xs.length acc δ →
    (∀ a r acc δ, a ∈ xs → I (r + 1) acc δ → has (tg (f a) δ) fun δ1 => GE t δ1 fun b δ2 => b = .ok true ∧ GE fe δ2 fun y δ3 => ∃ d, y = .ok d ∧ acc.length < 1000000 ∧ I r (acc ++ [cap d]) (wipeD vs δ3)) →
    (∀ acc δ, I 0 acc δ → K (acc, δ)) → has (evCmp tg t fe vs (xs.map f) acc δ) K
  | [], acc, δ, h, hs, hK => ⟨_, rfl, hK acc δ h⟩
  | a :: r, acc, δ, h, hs, hK => by
    obtain ⟨δ1, e1, b, δ2, e2, rfl, y, δ3, e3, d, rfl, hl, h3⟩ := hs a r.length acc δ List.mem_cons_self h
    have ih := has_cmpS I r (acc ++ [cap d]) (wipeD vs δ3) h3 (fun a' r' acc' δ' ha => hs a' r' acc' δ' (List.mem_cons_of_mem _ ha)) hK
    obtain ⟨w, ew, hw⟩ := ih
    refine ⟨w, ?_, hw⟩
    rw [List.map_cons, evCmp, e1]
    simp only [e2]
    rw [if_pos trivial, e3]
    simp only
    rw [if_pos hl]
    exact ew
theorem cmp_yes {tg : D → DS → Option DS} {t : DS → Option EB} {f : DS → Option ER} {vs : List Nat} {d : D} {r acc : List D} {δ : DS} {K : List D × DS → Prop} (h : has (tg d δ) fun δ1 => GE t δ1 fun b δ2 => b = .ok true ∧ GE f δ2 fun y δ3 => ∃ d', y = .ok d' ∧ acc.length < 1000000 ∧ has (evCmp tg t f vs r (acc ++ [cap d']) (wipeD vs δ3)) K) : has (evCmp tg t f vs (d :: r) acc δ) K := by
  obtain ⟨δ1, e1, b, δ2, e2, rfl, y, δ3, e3, d', rfl, hl, w, ew, hw⟩ := h
  refine ⟨w, ?_, hw⟩
  rw [evCmp, e1]
  simp only [e2]
  rw [if_pos trivial, e3]
  simp only
  rw [if_pos hl]
  exact ew
section
variable {α : Type} [DecidableEq α] {f : α → D} {xs ys : List α}
theorem v_eqT (h : ∀ a b, eqD (f a) (f b) = decide (a = b)) (hd : ∀ a, dp 59 (f a) = true) : gEq [.tup (xs.map f), .tup (ys.map f)] = some (.bl (decide (xs = ys))) := by
  show (if dp 60 _ && dp 60 _ then some (D.bl (eqD _ _)) else none) = _
  rw [dp, dp, dpL_of hd, dpL_of hd, eqD_t h]; rfl
theorem v_neT (h : ∀ a b, eqD (f a) (f b) = decide (a = b)) (hd : ∀ a, dp 59 (f a) = true) : gNe [.tup (xs.map f), .tup (ys.map f)] = some (.bl (!decide (xs = ys))) := by
  show (if dp 60 _ && dp 60 _ then some (D.bl (!eqD _ _)) else none) = _
  rw [dp, dp, dpL_of hd, dpL_of hd, eqD_t h]; rfl
end
/-- a statement that raises, one that returns: the rest unopened -/
theorem stepX {f g : DS → Option ES} {δ : DS} {QS : Out → DS → Prop} (x : Xc) (h1 : ∀ QQ : Out → DS → Prop, (∀ δ', QS (.ex x) δ' → QQ (.ex x) δ') → Go f δ QQ) : Go (evSeq f g) δ QS := by
  rw [g_seq]
  exact h1 _ fun δ' h => h
theorem stepR {f g : DS → Option ES} {δ : DS} {QS : Out → DS → Prop} (d : D) (h1 : ∀ QQ : Out → DS → Prop, (∀ δ', QS (.rt d) δ' → QQ (.rt d) δ') → Go f δ QQ) : Go (evSeq f g) δ QS := by
  rw [g_seq]
  exact h1 _ fun δ' h => h
end PD
/-! P, part 44: dicts: tables by keys; what is read off them. -/
namespace PD
open PySem L2 PyProof.Rows

def keyD : D → Option Key
  | .int i => some (.inl i)
  | .str s => some (.inr s)
  | _ => none
def kD : Key → D
  | .inl i => .int i
  | .inr s => .str s
def lkK (k : Key) (kvs : List (Key × D)) : Option D := (kvs.find? fun kv => decide (kv.1 = k)).map (·.2)
def pK (k : Key) (d : D) (kvs : List (Key × D)) : List (Key × D) :=
  if (kvs.any fun kv => decide (kv.1 = k)) = true then kvs.map (fun kv => if kv.1 = k then (kv.1, d) else kv) else kvs ++ [(k, d)]
def dK (k : Key) (kvs : List (Key × D)) : List (Key × D) := kvs.filter fun kv => decide (kv.1 ≠ k)
def isDic : D → Bool
  | .dic _ _ => true
  | _ => false

section
variable {G : GC} {Z S : AS} {H : Hp} {v : V} {A : AS}
theorem Rep.dicV {m : Fl} {kvs : List (Key × D)} (r : Rep G Z S H (.dic m kvs) v A) : ∃ a ws, v = .ref a ∧ Rd H a (.dK ws) ∧ kvs.map (·.1) = ws.map (·.1) ∧
    (∀ (i : Nat) p q, kvs[i]? = some p → ws[i]? = some q → ∃ B, Rep G Z S H p.2 q.2 B ∧ ∀ x, B x → A x) ∧ (shal m = true → ∀ (i : Nat) p q, kvs[i]? = some p → ws[i]? = some q → RepF G Z H p.2 q.2) := by
  have n0 : ∀ x, ¬ S0 x := fun x h => h
  cases r with
  | fz h hA =>
    cases h with
    | dic z h hl he => exact ⟨_, _, rfl, h, hl, fun i p q e1 e2 => ⟨S0, .fz (he i p q e1 e2) n0, fun x q => q.elim⟩, fun _ => he⟩
  | dco h hl he hA => exact ⟨_, _, rfl, .inl h, hl, fun i p q e1 e2 => ⟨S0, .fz (he i p q e1 e2) n0, fun x q => q.elim⟩, fun _ => he⟩
  | dcoo B h hl he hd hn ho hA => exact ⟨_, _, rfl, .inl h, hl, fun i p q e1 e2 => ⟨B i, he i p q e1 e2, fun x q => (hA x).mpr (.inr ⟨i, q⟩)⟩, fun q => absurd q (by decide)⟩
  | dcl s h hl he hA => exact ⟨_, _, rfl, h, hl, fun i p q e1 e2 => ⟨S0, .fz (he i p q e1 e2) n0, fun x q => q.elim⟩, fun _ => he⟩
  | dcll s h hl he hA => exact ⟨_, _, rfl, h, hl, fun i p q e1 e2 => ⟨S0, he i p q e1 e2, fun x q => q.elim⟩, fun q => absurd q (by decide)⟩
theorem dget_rd {a : Addr} {kvs : List (Key × V)} {k : Key} (e : Rd H a (.dK kvs)) : DGet H a (kV k) (valV kvs k) := .inl ⟨kvs, k, e, rfl, rfl⟩
theorem Rep.keyV {d : D} {k : Key} (r : Rep G Z S H d v A) (h : keyD d = some k) : v = kV k := by
  cases d <;> first | (cases h; done) | skip
  · cases h; exact r.intV
  · cases h; exact r.strV
theorem lkK_at (k : Key) : ∀ {kvs : List (Key × D)} {ws : List (Key × V)}, kvs.map (·.1) = ws.map (·.1) → (lkK k kvs = none ∧ valV ws k = none) ∨ ∃ (i : Nat) (d : D) (w : V), lkK k kvs = some d ∧ valV ws k = some w ∧ kvs[i]? = some (k, d) ∧ ws[i]? = some (k, w)
  | [], [], _ => .inl ⟨rfl, rfl⟩
  | [], _ :: _, h => by cases h
  | _ :: _, [], h => by cases h
  | (j, e) :: r, (g, w) :: ws, h => by
    rw [List.map_cons, List.map_cons] at h
    obtain ⟨h1, h2⟩ := List.cons.inj h
    simp only at h1
    subst h1
    by_cases hj : j = k
    · subst hj
      exact .inr ⟨0, e, w, by simp [lkK, List.find?_cons], valV_pos (p := (j, w)) rfl, rfl, rfl⟩
    · have a1 : lkK k ((j, e) :: r) = lkK k r := by simp [lkK, List.find?_cons, hj]
      have a2 : valV ((j, w) :: ws) k = valV ws k := valV_neg (p := (j, w)) hj
      rw [a1, a2]
      rcases lkK_at k h2 with ⟨q1, q2⟩ | ⟨i, d, w', q1, q2, q3, q4⟩
      · exact .inl ⟨q1, q2⟩
      · exact .inr ⟨i + 1, d, w', q1, q2, by simpa using q3, by simpa using q4⟩
/-- kvs and ws with one more, or one anew -/
theorem pK_at {Z2 : AS} {H2 : Hp} {k : Key} {d : D} {w : V} {kvs : List (Key × D)} {ws : List (Key × V)} (hl : kvs.map (·.1) = ws.map (·.1)) (he : ∀ (i : Nat) p q, kvs[i]? = some p → ws[i]? = some q → RepF G Z2 H2 p.2 q.2) (hd : RepF G Z2 H2 d w) :
    (pK k d kvs).map (·.1) = (putK ws k w).map (·.1) ∧ ∀ (i : Nat) p q, (pK k d kvs)[i]? = some p → (putK ws k w)[i]? = some q → RepF G Z2 H2 p.2 q.2 := by
  have an : ∀ {kvs : List (Key × D)} {ws : List (Key × V)}, kvs.map (·.1) = ws.map (·.1) → (kvs.any fun kv => decide (kv.1 = k)) = ws.any fun kv => decide (kv.1 = k) := by
    intro kvs ws h
    have e1 : (kvs.any fun kv => decide (kv.1 = k)) = (kvs.map (·.1)).any fun j => decide (j = k) := by rw [List.any_map]; rfl
    have e2 : (ws.any fun kv => decide (kv.1 = k)) = (ws.map (·.1)).any fun j => decide (j = k) := by rw [List.any_map]; rfl
    rw [e1, e2, h]
  unfold pK putK
  rw [an hl]
  by_cases q : (ws.any fun kv => decide (kv.1 = k)) = true
  · rw [if_pos q, if_pos q]
    constructor
    · rw [List.map_map, List.map_map]
      have e1 : kvs.map ((fun kv : Key × D => kv.1) ∘ fun kv => if kv.1 = k then (kv.1, d) else kv) = kvs.map (·.1) := List.map_congr_left fun p _ => by simp only [Function.comp]; split <;> rfl
      have e2 : ws.map ((fun kv : Key × V => kv.1) ∘ fun kv => if kv.1 = k then (kv.1, w) else kv) = ws.map (·.1) := List.map_congr_left fun p _ => by simp only [Function.comp]; split <;> rfl
      rw [e1, e2, hl]
    · intro i p r e1 e2
      obtain ⟨p0, f1, rfl⟩ := getMap e1
      obtain ⟨r0, f2, rfl⟩ := getMap e2
      have kk : p0.1 = r0.1 := by
        have g1 : (kvs.map (·.1))[i]? = some p0.1 := by rw [List.getElem?_map, f1]; rfl
        have g2 : (ws.map (·.1))[i]? = some r0.1 := by rw [List.getElem?_map, f2]; rfl
        rw [hl, g2] at g1
        exact (Option.some.inj g1).symm
      by_cases hk : p0.1 = k
      · rw [if_pos hk, if_pos (kk ▸ hk)]; exact hd
      · rw [if_neg hk, if_neg (kk ▸ hk)]; exact he i p0 r0 f1 f2
  · rw [if_neg q, if_neg q]
    have len : kvs.length = ws.length := by simpa using congrArg List.length hl
    refine ⟨by simp [hl], fun i p r e1 e2 => ?_⟩
    rcases Nat.lt_or_ge i kvs.length with h | h
    · rw [List.getElem?_append_left h] at e1
      rw [List.getElem?_append_left (by omega)] at e2
      exact he i p r e1 e2
    · rw [List.getElem?_append_right h] at e1
      rw [List.getElem?_append_right (by omega), ← len] at e2
      cases q : i - kvs.length with
      | zero => rw [q] at e1 e2; simp at e1 e2; subst e1 e2; exact hd
      | succ j => rw [q] at e1; simp at e1
/-- .. with one less -/
theorem dK_at {Z2 : AS} {H2 : Hp} {k : Key} : ∀ {kvs : List (Key × D)} {ws : List (Key × V)}, kvs.map (·.1) = ws.map (·.1) → (∀ (i : Nat) p q, kvs[i]? = some p → ws[i]? = some q → RepF G Z2 H2 p.2 q.2) →
    (dK k kvs).map (·.1) = (dropK ws k).map (·.1) ∧ ∀ (i : Nat) p q, (dK k kvs)[i]? = some p → (dropK ws k)[i]? = some q → RepF G Z2 H2 p.2 q.2
  | [], [], _, he => ⟨rfl, he⟩
  | [], _ :: _, h, _ => by cases h
  | _ :: _, [], h, _ => by cases h
  | (j, e) :: r, (g, w) :: ws, h, he => by
    rw [List.map_cons, List.map_cons] at h
    obtain ⟨h1, h2⟩ := List.cons.inj h
    simp only at h1
    subst h1
    obtain ⟨i1, i2⟩ := dK_at (k := k) h2 fun i p q e1 e2 => he (i + 1) p q (by simpa using e1) (by simpa using e2)
    by_cases hj : j = k
    · have a1 : dK k ((j, e) :: r) = dK k r := by simp [dK, hj]
      have a2 : dropK ((j, w) :: ws) k = dropK ws k := by simp [dropK, hj]
      rw [a1, a2]
      exact ⟨i1, i2⟩
    · have a1 : dK k ((j, e) :: r) = (j, e) :: dK k r := by simp [dK, hj]
      have a2 : dropK ((j, w) :: ws) k = (j, w) :: dropK ws k := by simp [dropK, hj]
      rw [a1, a2]
      refine ⟨by simp [i1], fun i p q e1 e2 => ?_⟩
      cases i with
      | zero => exact he 0 p q (by simpa using e1) (by simpa using e2)
      | succ i => exact i2 i p q (by simpa using e1) (by simpa using e2)
end

/-! ### what is read -/
def gItemU : List D → Option D
  | [.dic _ kvs, k] => (keyD k).bind fun k => (lkK k kvs).bind fun d => if isF d then some d else none
  | ds => gItem ds
def gInU : List D → Option D
  | [k, .dic _ kvs] => (keyD k).map fun k => .bl (lkK k kvs).isSome
  | ds => gIn ds
def gNotInU : List D → Option D
  | [k, .dic _ kvs] => (keyD k).map fun k => .bl (!(lkK k kvs).isSome)
  | ds => gNotIn ds
def gLenU : List D → Option D
  | [.dic _ kvs] => some (.int kvs.length)
  | ds => gLen ds
section
variable {G : GC} {X : Cx}
theorem ix_dic (hu : X.A.units + 1 < cLine) : IxR X (fun x y H Q => ∃ a v, x = .ref a ∧ DGet H a y (some v) ∧ Q v H) := by
  intro value slice pins s σ H x y v u Q I rx ry h hs
  obtain ⟨a, r, rfl, g, q⟩ := h
  obtain rfl : v = Value.ref a := rx
  exact tail_any (dict_typeIs I g) PySem.F.slot_dict_getitem.lookup (d_getItem hu I g ry fun w' s' I' rw' => ⟨r, H, I', rw', q⟩) hs
theorem op_inD (hu : X.A.units + 1 < cLine) : OpR X (compareOp .In) (fun y x H Q => ∃ a o, x = .ref a ∧ DGet H a y o ∧ Q (.bl o.isSome) H) := by
  intro pins s σ H x y v u Q I rx ry h
  obtain ⟨a, o, rfl, g, q⟩ := h
  obtain rfl : u = Value.ref a := ry
  exact d_in hu I g rx fun s' I' => ⟨.bl o.isSome, H, I', rfl, q⟩
theorem op_notInD (hu : X.A.units + 1 < cLine) : OpR X (compareOp .NotIn) (fun y x H Q => ∃ a o, x = .ref a ∧ DGet H a y o ∧ Q (.bl (!o.isSome)) H) := by
  intro pins s σ H x y v u Q I rx ry h
  obtain ⟨a, o, rfl, g, q⟩ := h
  obtain rfl : u = Value.ref a := ry
  exact d_notIn hu I g rx fun s' I' => ⟨.bl (!o.isSome), H, I', rfl, q⟩
theorem call_lenX : CallR X (.builtin "len") (fun xs H Q => ∃ a kvs, xs = [V.ref a] ∧ Rd H a (.dK kvs) ∧ Q (.int kvs.length) H) := by
  intro pins s σ H xs us Q I r q
  obtain ⟨a, kvs, ex, hd, q⟩ := q
  subst ex
  obtain ⟨u, eu, rx⟩ := vals1 r
  subst eu
  cases rx
  exact d_len I hd fun t s' I' => ⟨.int kvs.length, H, I', ⟨t, rfl⟩, q⟩
theorem rof_of {g g' : List D → Option D} {vs : List V} {H : Hp} {Q : VK} (h : rOf G g vs H Q) {p q : Prop} (h1 : ∀ Z S ds d, (∀ a, Z a → ∃ o, H a = some o) → ArgV G Z S H ds vs → g ds = some d → OkV G Z H d Q → p ∨ g' ds = some d) (h2 : p → q) (h3 : rOf G g' vs H Q → q) : q := by
  obtain ⟨Z, S, ds, d, zs, a, e, k⟩ := h
  rcases h1 Z S ds d zs a e k with z | z
  · exact h2 z
  · exact h3 ⟨Z, S, ds, d, zs, a, z, k⟩
theorem ok_itemU (h : XO G X) : IxOk G X gItemU := .of ((ix_dic (by have := h.hu; omega)).or (ok_item h)) fun x y H Q r => rof_of (p := ∃ a v, x = .ref a ∧ DGet H a y (some v) ∧ Q v H) r (fun Z S ds d zs a e k => by
  unfold gItemU at e
  split at e
  · rename_i m kvs kd
    obtain ⟨x', y', A, B, ev, r1, r2⟩ := argv2 a
    cases ev
    cases ek : keyD kd with
    | none => rw [ek] at e; cases e
    | some κ =>
      rw [ek] at e
      simp only [Option.bind_some] at e
      obtain ⟨p, ws, rfl, hh, hl, he, _⟩ := r1.dicV
      rw [r2.keyV ek]
      rcases lkK_at κ hl with ⟨q1, q2⟩ | ⟨i, d', w, q1, q2, q3, q4⟩
      · rw [q1] at e; cases e
      · rw [q1] at e
        simp only [Option.bind_some] at e
        split at e
        · rename_i hf
          cases e
          obtain ⟨B', rB, _⟩ := he i _ _ q3 q4
          exact .inl ⟨p, w, rfl, by rw [← q2]; exact dget_rd hh, k.old (rB.frozen hf).1⟩
        · cases e
  · exact .inr e) .inl .inr
theorem ok_inU (h : XO G X) : BinOk G X (compareOp .In) gInU := .of ((op_inD (by have := h.hu; omega)).or (ok_in h)) fun x y H Q r => rof_of (p := ∃ a o, y = .ref a ∧ DGet H a x o ∧ Q (.bl o.isSome) H) r (fun Z S ds d zs a e k => by
  unfold gInU at e
  split at e
  · rename_i kd m kvs
    obtain ⟨x', y', A, B, ev, r1, r2⟩ := argv2 a
    cases ev
    cases ek : keyD kd with
    | none => rw [ek] at e; cases e
    | some κ =>
      rw [ek] at e
      cases e
      obtain ⟨p, ws, rfl, hh, hl, he, _⟩ := r2.dicV
      rw [r1.keyV ek]
      refine .inl ⟨p, valV ws κ, rfl, dget_rd hh, ?_⟩
      have : (lkK κ kvs).isSome = (valV ws κ).isSome := by
        rcases lkK_at κ hl with ⟨q1, q2⟩ | ⟨i, d', w, q1, q2, q3, q4⟩ <;> rw [q1, q2] <;> rfl
      rw [← this]
      exact k.bl
  · exact .inr e) .inl .inr
theorem ok_notInU (h : XO G X) : BinOk G X (compareOp .NotIn) gNotInU := .of ((op_notInD (by have := h.hu; omega)).or (ok_notIn h)) fun x y H Q r => rof_of (p := ∃ a o, y = .ref a ∧ DGet H a x o ∧ Q (.bl (!o.isSome)) H) r (fun Z S ds d zs a e k => by
  unfold gNotInU at e
  split at e
  · rename_i kd m kvs
    obtain ⟨x', y', A, B, ev, r1, r2⟩ := argv2 a
    cases ev
    cases ek : keyD kd with
    | none => rw [ek] at e; cases e
    | some κ =>
      rw [ek] at e
      cases e
      obtain ⟨p, ws, rfl, hh, hl, he, _⟩ := r2.dicV
      rw [r1.keyV ek]
      refine .inl ⟨p, valV ws κ, rfl, dget_rd hh, ?_⟩
      have : (lkK κ kvs).isSome = (valV ws κ).isSome := by
        rcases lkK_at κ hl with ⟨q1, q2⟩ | ⟨i, d', w, q1, q2, q3, q4⟩ <;> rw [q1, q2] <;> rfl
      rw [← this]
      exact k.bl
  · exact .inr e) .inl .inr
theorem ok_lenU (h : XO G X) : CallOk G X (.builtin "len") gLenU := .of (call_lenX.or (ok_len h)) fun xs H Q r => rof_of (p := ∃ a kvs, xs = [V.ref a] ∧ Rd H a (.dK kvs) ∧ Q (.int kvs.length) H) r (fun Z S ds d zs a e k => by
  unfold gLenU at e
  split at e
  · rename_i m kvs
    cases e
    obtain ⟨_, A, rfl, r1⟩ := argv1 a
    obtain ⟨p, ws, rfl, hh, hl, he, _⟩ := r1.dicV
    have len : kvs.length = ws.length := by simpa using congrArg List.length hl
    exact .inl ⟨p, ws, rfl, hh, by rw [← len]; exact k.int⟩
  · exact .inr e) .inl .inr
end
end PD
/-! P, part 45: dicts: get, {}, dict(..), sorted(d), sum(d.values()). -/
namespace PD
open PySem L2 PyProof.Rows PySem.Spec

def gGet1 : List D → Option D
  | [.dic _ kvs, k] => (keyD k).bind fun k => match lkK k kvs with
    | some d => if isF d then some d else none
    | none => some .non
  | _ => none
def gGet2 : List D → Option D
  | [.dic _ kvs, k, x] => (keyD k).bind fun k => match lkK k kvs with
    | some d => if isF d then some d else none
    | none => if isF x then some x else none
  | _ => none
def pairsOf : List D → Option (List (Key × D))
  | [] => some []
  | .tup [k, d] :: r => (keyD k).bind fun k => (pairsOf r).map ((k, d) :: ·)
  | _ :: _ => none
def mrgK (acc more : List (Key × D)) : List (Key × D) := more.foldl (fun acc kv => pK kv.1 kv.2 acc) acc
def gDict : List D → Option D
  | [.dic m kvs] => if shal m then some (.dic .o kvs) else none
  | [.lst _ xs] => (pairsOf xs).map fun ps => .dic .o (mrgK [] ps)
  | _ => none
def keysD (kvs : List (Key × D)) : List D := kvs.map fun kv => kD kv.1
def gSortedU : List D → Option D
  | [.dic _ kvs] => if sortOk (keysD kvs) then some (.lst .o ((keysD kvs).mergeSort leD)) else none
  | ds => gSorted ds
def gSumV : List D → Option D
  | [.dic _ kvs] => (intsOf (kvs.map (·.2))).map fun ns => .int ns.sum
  | _ => none
section
variable {G : GC} {X : Cx}
theorem OkV.dic {Z : AS} {H : Hp} {Q : VK} (zs : ∀ a, Z a → ∃ o, H a = some o) {kvs : List (Key × D)} {ws : List (Key × V)} (h : OkV G Z H (.dic .o kvs) Q) (hl : kvs.map (·.1) = ws.map (·.1)) (he : ∀ (i : Nat) p q, kvs[i]? = some p → ws[i]? = some q → RepF G Z H p.2 q.2) {p : Addr} (n : H p = none) : Q (.ref p) (upd H p (.dK ws)) :=
  h _ _ Z (fun x => x = p) (same_upd n) (fun _ z => z) (fun _ z => .inl z) (.dco upd_same hl (fun i d w e1 e2 => (he i d w e1 e2).same (same_upd n)) fun _ => Iff.rfl) fun x e => by
    subst e
    exact ⟨n, fun z => by obtain ⟨o, q⟩ := zs x z; rw [n] at q; cases q⟩
theorem mrg_at {Z2 : AS} {H2 : Hp} : ∀ {ps : List (Key × D)} {rs : List (Key × V)} {kvs : List (Key × D)} {ws : List (Key × V)}, ps.map (·.1) = rs.map (·.1) → (∀ (i : Nat) p q, ps[i]? = some p → rs[i]? = some q → RepF G Z2 H2 p.2 q.2) → kvs.map (·.1) = ws.map (·.1) → (∀ (i : Nat) p q, kvs[i]? = some p → ws[i]? = some q → RepF G Z2 H2 p.2 q.2) →
    (mrgK kvs ps).map (·.1) = (mergeK ws rs).map (·.1) ∧ ∀ (i : Nat) p q, (mrgK kvs ps)[i]? = some p → (mergeK ws rs)[i]? = some q → RepF G Z2 H2 p.2 q.2
  | [], [], _, _, _, _, h1, h2 => ⟨h1, h2⟩
  | [], _ :: _, _, _, h, _, _, _ => by cases h
  | _ :: _, [], _, _, h, _, _, _ => by cases h
  | p :: ps, r :: rs, kvs, ws, h, he, h1, h2 => by
    rw [List.map_cons, List.map_cons] at h
    obtain ⟨k1, k2⟩ := List.cons.inj h
    obtain ⟨a1, a2⟩ := pK_at (k := p.1) h1 h2 (he 0 p r rfl rfl)
    have := mrg_at (ps := ps) (rs := rs) (kvs := pK p.1 p.2 kvs) (ws := putK ws p.1 r.2) k2 (fun i p q e1 e2 => he (i + 1) p q (by simpa using e1) (by simpa using e2)) a1 a2
    have e1 : mrgK kvs (p :: ps) = mrgK (pK p.1 p.2 kvs) ps := rfl
    have e2 : mergeK ws (r :: rs) = mergeK (putK ws p.1 r.2) rs := by
      show mergeK (putK ws r.1 r.2) rs = _
      rw [← k1]
    rw [e1, e2]
    exact this
theorem pairs_at {Z S : AS} {H : Hp} : ∀ {xs : List D} {ps : List (Key × D)} {vs : List V}, pairsOf xs = some ps → xs.length = vs.length → (∀ (i : Nat) d w, xs[i]? = some d → vs[i]? = some w → ∃ B, Rep G Z S H d w B) →
    ∃ (as : List Addr) (rs : List (Key × V)), vs = as.map V.ref ∧ Paired (fun p kv => SqT G.K H p [kV kv.1, kv.2]) as rs ∧ ps.map (·.1) = rs.map (·.1) ∧ ∀ (i : Nat) p q, ps[i]? = some p → rs[i]? = some q → RepF G Z H p.2 q.2
  | [], ps, [], h, _, _ => by cases h; exact ⟨[], [], rfl, .nil, rfl, fun i p q e => by simp at e⟩
  | [], _, _ :: _, _, h, _ => by cases h
  | _ :: _, _, [], _, h, _ => by cases h
  | x :: xs, ps, v :: vs, h, hl, he => by
    unfold pairsOf at h
    split at h
    · rename_i h0; cases h0
    · rename_i k d r h0
      cases h0
      cases ek : keyD k with
      | none => rw [ek] at h; cases h
      | some κ =>
        rw [ek] at h
        simp only [Option.bind_some] at h
        cases eq : pairsOf xs with
        | none => rw [eq] at h; cases h
        | some qs =>
          rw [eq] at h
          cases h
          obtain ⟨as, rs, e1, e2, e3, e4⟩ := pairs_at (xs := xs) eq (by simpa using hl) fun i d w e1 e2 => he (i + 1) d w (by simpa using e1) (by simpa using e2)
          obtain ⟨B, r⟩ := he 0 _ v rfl rfl
          obtain ⟨a, us, rfl, sq, ul, ue, _⟩ := r.tupV
          match us, ul with
          | [u1, u2], _ =>
            have r1 := ue 0 k u1 rfl rfl
            have r2 := ue 1 d u2 rfl rfl
            have := (Rep.fz (S := S) (A := S0) r1 fun _ z => z).keyV ek
            subst this
            refine ⟨a :: as, (κ, u2) :: rs, by rw [e1]; rfl, .cons sq e2, by simp [e3], fun i p q f1 f2 => ?_⟩
            cases i with
            | zero => cases f1; cases f2; exact r2
            | succ i => exact e4 i p q (by simpa using f1) (by simpa using f2)
    · cases h
theorem ok_dict (h : XO G X) (hc : X.calm = true) : CallOk G X (.type "dict") gDict := .of (call_dictD.or (call_dictP hc)) fun xs H Q ⟨Z, S, ds, d, zs, a, e, k⟩ => by
  unfold gDict at e
  split at e
  · rename_i m kvs
    split at e
    · rename_i hs
      cases e
      obtain ⟨_, A, rfl, r1⟩ := argv1 a
      obtain ⟨p, ws, rfl, hh, hl, _, he⟩ := r1.dicV
      exact .inl ⟨p, ws, rfl, hh, fun q hq => k.dic zs hl (he hs) hq⟩
    · cases e
  · rename_i m xs'
    cases ep : pairsOf xs' with
    | none => rw [ep] at e; cases e
    | some ps =>
      rw [ep] at e
      cases e
      obtain ⟨_, A, rfl, r1⟩ := argv1 a
      obtain ⟨p, vs, rfl, sq, hl, he, _⟩ := r1.lstV
      obtain ⟨as, rs, rfl, e2, e3, e4⟩ := pairs_at ep hl fun i d w e1 e2 => let ⟨B, r, _⟩ := he i d w e1 e2; ⟨B, r⟩
      rw [← h.K] at sq e2
      obtain ⟨m1, m2⟩ := mrg_at (kvs := []) (ws := []) e3 e4 rfl fun i p q e => by simp at e
      exact .inr ⟨p, as, rs, rfl, sq, e2, fun q hq => k.dic zs m1 m2 hq⟩
  · cases e
/-- sorted(d), of any length -/
theorem kD_toP {h : Heap} {k : Key} {u : Value} (r : RelV (kV k) u) : Reads h u (toP (kD k)) [] := by
  cases k with
  | inl i => obtain ⟨t, rfl⟩ := r; exact .int i t
  | inr s => obtain ⟨t, rfl⟩ := r; exact .str s t
theorem eachK : ∀ {ks : List Key} {us : List Value}, Vals (ks.map kV) us → W.EachIs (fun u k => RelV (kV k) u) us ks
  | [], _, h => by cases h; exact .nil
  | k :: ks, _, h => by cases h with | cons r t => exact .cons r (eachK t)
theorem valsK : ∀ {us : List Value} {ks : List Key}, W.EachIs (fun u k => RelV (kV k) u) us ks → Vals (ks.map kV) us
  | _, _, .nil => .nil
  | _, _, .cons r t => .cons r (valsK t)
def leK (a b : Key) : Bool := W.dataLe false (fun k => toP (kD k)) a b
theorem call_sortedX (hcalm : X.calm = true) (hu : X.A.units + 200 < cLine) : CallR X (.builtin "sorted") (fun xs H Q => ∃ (a : Addr) (kvs : List (Key × V)), xs = [.ref a] ∧ Rd H a (.dK kvs) ∧ sortOk ((kvs.map (·.1)).map kD) = true ∧
    ∀ p, H p = none → Q (.ref p) (upd H p (.lst (((kvs.map (·.1)).mergeSort leK).map kV)))) := by
  intro pins s σ H xs us Q I r q
  obtain ⟨a, kvs, ex, hd, ho, q⟩ := q
  subst ex
  obtain ⟨u, eu, rx⟩ := vals1 r
  subst eu
  cases rx
  obtain ⟨z, lo, vs, rel, dd⟩ := dk_rd I.hok hd
  obtain ⟨ep, hat⟩ := dd.dictAt
  have hkeys : vs.map (·.1) = kvs.map (·.1) := rel.keys.symm
  have hl : vs.length = kvs.length := by simpa using congrArg List.length hkeys
  have h16 : vs.length ≤ sizeLine := by rw [hl]; exact z
  refine Calls.call_function_entry PyProof.Rows.kind_sorted PyProof.Rows.plain_sorted PyProof.Rows.entry_sorted (PyProof.Rows.args_sorted1 _) ?_
  unfold Builtin.«sorted»
  refine wpAny_bind (m := checkCount "sorted" 1 1 _) (wpAny_pure ?_)
  refine wpAny_bind (PySem.W.kdu_collect (A := X.A.in1) (PySem.W.kdl_dict (knd := mixKind X.prog X.w) (kvs := vs) (ep := ep) lo) (I.ok.hd hcalm) hat h16 fun h' tk acc hk hacc => ?_)
  have hal : acc.toList.length = vs.length := by rw [Array.length_toList, hacc.1]
  have hv0 : Vals (vs.map fun p => kV p.1) acc.toList := keys_at (by rw [Array.length_toList]; exact hacc.1) fun j v e => hacc.2 j v (by rw [← Array.getElem?_toList]; exact e)
  have hv : Vals ((kvs.map (·.1)).map kV) acc.toList := by rw [← hkeys, List.map_map]; exact hv0
  have I1 : Inv X pins σ H { s with heap := h', toks := tk } := I.kept hk
  refine wpAny_bind (wpAny_newList ?_ (by rw [hal]; exact h16))
  have hoL : (h'.push (seqObj "list" acc.toList.toArray 0)).get? h'.objs.size = some (seqObj "list" acc.toList.toArray 0) := Heap.get?_push_size _ rfl
  show wpAny _ _ _ _ _ { s with heap := h'.push (seqObj "list" acc.toList.toArray 0), toks := tk }
  have hE := eachK hv
  unfold sortOk at ho
  simp only [Bool.and_eq_true, decide_eq_true_eq] at ho
  obtain ⟨⟨⟨h1, h2⟩, h3⟩, h4⟩ := ho
  rw [dpL_all, List.all_eq_true] at h1
  refine wpAny_bind (wpAny_holding (PySem.W.list_sort_data (s := { s with heap := h'.push (seqObj "list" acc.toList.toArray 0), toks := tk }) (bs := kvs.map (·.1)) (enc := fun k => toP (kD k)) (R := fun u k => RelV (kV k) u) hoL hE
    (hE.mono fun u k r => ⟨[], kD_toP r, List.not_mem_nil⟩) ?_ ?_ (by rw [List.length_map]; exact z) ?_ fun out hout eo => ?_))
  · intro d hd d' hd'
    obtain ⟨b, hb, rfl⟩ := List.mem_map.mp hd
    obtain ⟨b', hb', rfl⟩ := List.mem_map.mp hd'
    rw [List.all_eq_true] at h2
    exact List.all_eq_true.mp (h2 _ (List.mem_map_of_mem hb)) _ (List.mem_map_of_mem hb')
  · rw [Bool.or_eq_true, List.all_eq_true, List.all_eq_true] at h3
    rcases h3 with h3 | h3
    · refine .inl fun d hd => ?_
      obtain ⟨b, hb, rfl⟩ := List.mem_map.mp hd
      have := h3 _ (List.mem_map_of_mem hb)
      cases b <;> simp [kD, toP, tup1] at this
    · refine .inr fun d hd => ?_
      obtain ⟨b, hb, rfl⟩ := List.mem_map.mp hd
      have := h3 _ (List.mem_map_of_mem hb)
      show toP (kD b) ≠ _ ∧ _
      cases q : toP (kD b) <;> rw [q] at this <;> simp_all [noTup]
  · intro b hb
    obtain ⟨p1, d1⟩ := dp_plain 60 (kD b) (h1 _ (List.mem_map_of_mem hb))
    have e1 : X.A.in1.units ≤ X.A.units + 1 := by first | exact Nat.le_refl _ | (simp [Around.in1, Around.units]; done) | exact Nat.le_of_eq rfl
    show X.A.in1.units + 1 + (toP (kD b)).depth < cLine
    omega
  · obtain ⟨e', he'⟩ := PyProof.Rows.sortedHeap_at (vs := acc.toList) (out := out.toArray) hoL
    have hlen : (((kvs.map (·.1)).mergeSort leK).map kV).length ≤ sizeLine := by
      rw [List.length_map, List.length_mergeSort, List.length_map]
      exact z
    refine wpAny_pure ⟨_, rfl, .ref h'.objs.size, upd H h'.objs.size (.lst (((kvs.map (·.1)).mergeSort leK).map kV)), I1.laid (t' := tk) (fun b u e => ?_) (Nat.le_refl _)
      (show ObjOk X.prog X.w _ _ _ (.lst (((kvs.map (·.1)).mergeSort leK).map kV)) from ⟨hlen, out, e', valsK eo, he'⟩), rfl, q _ (I1.hok.fresh (Nat.le_refl _))⟩
    have hb : b < h'.objs.size := Heap.lt_size e
    rw [PyProof.Rows.sortedHeap_old (Nat.ne_of_lt hb) (by rw [size_push']; exact Nat.lt_succ_of_lt hb)]
    exact Heap.get?_push_of_some _ e
theorem repF_kD {Z : AS} {H : Hp} (k : Key) : RepF G Z H (kD k) (kV k) := by
  cases k with
  | inl i => exact .int i
  | inr s => exact .str s
theorem ok_sortedU (h : XO G X) (hc : X.calm = true) : CallOk G X (.builtin "sorted") gSortedU := fun pins s σ H xs us Q I rx r => by
  refine ((call_sortedX hc h.hu).or (ok_sorted h)) pins s σ H xs us Q I rx ?_
  refine rof_of (p := ∃ (a : Addr) (kvs : List (Key × V)), xs = [.ref a] ∧ Rd H a (.dK kvs) ∧ sortOk ((kvs.map (·.1)).map kD) = true ∧ ∀ p, H p = none → Q (.ref p) (upd H p (.lst (((kvs.map (·.1)).mergeSort leK).map kV)))) r (fun Z S ds d zs a e k => ?_) .inl .inr
  unfold gSortedU at e
  split at e
  · rename_i m kvs
    split at e
    · rename_i ho
      cases e
      obtain ⟨_, A, rfl, r1⟩ := argv1 a
      obtain ⟨p, ws, rfl, hh, hl, _, _⟩ := r1.dicV
      have e0 : (ws.map (·.1)).map kD = keysD kvs := by rw [← hl, List.map_map]; rfl
      refine .inl ⟨p, ws, rfl, hh, by rw [e0]; exact ho, fun q hq => ?_⟩
      have mm : ((ws.map (·.1)).mergeSort leK).map kD = (keysD kvs).mergeSort leD := by
        rw [← e0, List.map_mergeSort (r := leK) (s := leD) (f := kD) fun a _ b _ => rfl]
      refine k.lst zs ?_ (fun i d w e1 e2 => ?_) hq
      · rw [← mm, List.length_map, List.length_map]
      · rw [← mm] at e1
        obtain ⟨b, f1, rfl⟩ := getMap e1
        obtain ⟨b', f2, rfl⟩ := getMap e2
        rw [f1] at f2; cases f2
        exact repF_kD b
    · cases e
  · exact .inr e
end
end PD
/-! P, part 46: sum(d.values()), d.get, {}, dict(..): the rules. -/
namespace PD
open PySem L2 PyProof.Rows PySem.Spec

theorem preSum_getD (is : List Int) : ∀ n, n ≤ is.length → preSum (fun i => is.getD i 0) n = (is.take n).sum
  | 0, _ => by simp [preSum]
  | n + 1, h => by
    have hn : n < is.length := h
    rw [show preSum (fun i => is.getD i 0) (n + 1) = preSum (fun i => is.getD i 0) n + is.getD n 0 from rfl, preSum_getD is n (by omega), List.take_add_one, List.sum_append]
    simp [hn]
/-- sum(o.values()) -/
def tSumVals (td : TE) : TE := fun σ H Q => td σ H fun x H1 => ∃ (a : Addr) (kvs : List (Key × V)) (is : List Int), x = V.ref a ∧ Rd H1 a (.dK kvs) ∧ kvs.map (·.2) = is.map V.int ∧ Q (.int is.sum) H1
section
variable {X : Cx} {o : Expr} {p pos apos mpos : Pos} {td : TE}
theorem pe_sumVals (hc : X.calm = true) (hg : Gl X "sum") (hm : X.mg "sum" = none) (hd : PE X o td) (hbase : attributeBase o "values" X.env (eval o X.env) = eval o X.env) (hline : (apos.endLine == mpos.line) = true)
    (hse : starEach [Expr.Call (.Attribute o "values" apos) [] [] mpos] X.env = [(false, eval (Expr.Call (.Attribute o "values" apos) [] [] mpos) X.env)]) :
    PE X (.Call (.Name "sum" p) [.Call (.Attribute o "values" apos) [] [] mpos] [] pos) (tSumVals td) := by
  refine ⟨fun pins s σ H Q I h => ?_⟩
  refine wpAny_Call_Name_kw (ld_blt I hg hm (u := .builtin "sum") (by first | rfl | decide +kernel) ?_ (by first | decide +kernel | decide) (by first | decide +kernel | decide))
  rw [hse]
  refine PySem.callWith_builtin1 (wpAny_Call_method0_late hbase hline (thn (hd.run pins s σ H _ I h) fun v s1 ⟨x, H1, I1, r1, a, kvs, is, ex, ha, hv, q⟩ => ?_))
  subst ex
  obtain rfl : v = Value.ref a := r1
  obtain ⟨_, hsys, vs, rel, dof⟩ := dk_rd I1.hok ha
  obtain ⟨ep, dat⟩ := dof.dictAt
  have dat' := dat
  obtain ⟨ob, es, ho, ex, hdat, hko, hpr, hnd⟩ := dat'
  refine ⟨"dict", "dict.values", F.plainAttrs_dict, F.slot_dict_values, F.type_dict_values, ⟨ob, ho, ex.1⟩, fun b e => ?_, Calls.callWith_builtin rfl (PySem.evalArgs_none ?_)⟩
  · cases e
    exact ⟨ob, ho, ex.2.1⟩
  refine call_meetsIn F.slot_dict_values ⟨ob, ho, ex.1⟩ F.entry_dict_values (F.args_dict_values_1 _) (meets_dict_values (mixKind X.prog X.w) a hsys) ⟨⟨vs, dof⟩, ?_⟩
  have k1 : ∀ b u, s1.heap.get? b = some u → (s1.heap.push { cls := .type "dict_values", data := .fields #[.ref a] }).get? b = some u := fun b u e => Heap.get?_push_of_some _ e
  have dat1 : (s1.heap.push { cls := .type "dict_values", data := .fields #[.ref a] }).DictAt (mixKind X.prog X.w) a vs ep := dat.keep k1
  have hlv : vs.length = is.length := by
    have e1 := congrArg List.length hv
    rw [List.length_map, List.length_map] at e1
    rw [← e1]
    exact (KV.length rel).symm
  have hval : ∀ (i : Nat) (v : Value), (∃ k, vs[i]? = some (k, v)) → ∃ t, v = Value.int (is.getD i 0) t := fun i v ⟨k, hk⟩ => by
    obtain ⟨x, h1, h2⟩ := KV.at' rel hk
    have e1 : (kvs.map (·.2))[i]? = some x := by rw [List.getElem?_map, h1] <;> rfl
    rw [hv, List.getElem?_map] at e1
    obtain ⟨j, hj, e2⟩ := Option.map_eq_some_iff.mp e1
    subst e2
    obtain ⟨t, e3⟩ := h2
    refine ⟨t, ?_⟩
    rw [e3, List.getD_eq_getElem?_getD, hj] <;> rfl
  refine call_sum_walkG (wpAny_pyIter_values (v := s1.heap.objs.size) (d := a) ⟨_, Heap.get?_push_size _ rfl, rfl, rfl⟩ dat1 ?_)
  have hlt : a < s1.heap.objs.size := Heap.lt_size ho
  have hsz : (s1.heap.push { cls := .type "dict_values", data := .fields #[.ref a] }).objs.size = s1.heap.objs.size + 1 := Heap.size_push _ _
  refine ⟨_, _, _, _, _, _, _, rfl, Walks.dictValues (knd := mixKind X.prog X.w) (A := X.A.in1) (I.ok.hd hc) (s1.heap.push { cls := .type "dict_values", data := .fields #[.ref a] }).objs.size a (by rw [hsz]; exact Nat.ne_of_lt (Nat.lt_succ_of_lt hlt)) vs ep,
    ⟨⟨_, Heap.get?_push_size _ rfl, rfl, rfl⟩, dat1.keep fun b u e => Heap.get?_push_of_some _ e⟩, fun b hb => ?_, hval, fun h' tk t' hk => ?_⟩
  · show b < ((s1.heap.push _).push _).objs.size
    rw [Heap.size_push, Heap.size_push]
    rw [hsz] at hb
    rcases List.mem_cons.mp hb with e | hb
    · rw [e]
      exact Nat.lt_succ_self _
    · have e : b = a := List.mem_singleton.mp hb
      rw [e]
      exact Nat.lt_succ_of_lt (Nat.lt_succ_of_lt hlt)
  · refine ⟨.int is.sum, H1, I1.kept (t' := tk) fun b u e => hk b u (fun hmem => ?_) (Heap.get?_push_of_some _ (k1 b u e)), ⟨t', ?_⟩, q⟩
    · have e1 : b = (s1.heap.push { cls := .type "dict_values", data := .fields #[.ref a] }).objs.size := List.mem_singleton.mp hmem
      have e2 := Heap.lt_size e
      rw [hsz] at e1
      rw [e1] at e2
      exact absurd e2 (Nat.not_lt.mpr (Nat.le_succ _))
    · rw [preSum_getD is vs.length (by omega), hlv, List.take_length]
end

section
variable {E : En} {G : GC} {p : Pl} {X : Cx} {n : Nat} {pn : List Nat}
theorem vints {Z S : AS} {H : Hp} {kvs : List (Key × D)} {ws : List (Key × V)} {ns : List Int} (hi : intsOf (kvs.map (·.2)) = some ns) (hl : kvs.map (·.1) = ws.map (·.1)) (he : ∀ (i : Nat) p q, kvs[i]? = some p → ws[i]? = some q → ∃ B, Rep G Z S H p.2 q.2 B ∧ ∀ x, B x → True) : ws.map (·.2) = ns.map V.int := by
  have e0 := intsOf_eq hi
  have len : kvs.length = ws.length := by simpa using congrArg List.length hl
  refine ints_V (G := G) (Z := Z) (S := S) (H := H) (ns := ns) (by rw [← e0]; simp [len]) fun i d w e1 e2 => ?_
  rw [← e0] at e1
  obtain ⟨p, f1, rfl⟩ := getMap e1
  obtain ⟨q, f2, rfl⟩ := getMap e2
  obtain ⟨B, r, _⟩ := he i p q f1 f2
  exact ⟨B, r⟩
theorem j_sumV {vw qt : Bool} {x m : Str} {q a mp pos : Pos} {e : Expr} {f : DS → Option ER} (hG : G.K = E.K) (hx : x = Str.ofString "sum") (hg : glOk p x = true) (hm : E.mg x = none) (hy : m = Str.ofString "values") (ha : JE E G p vw qt e f) (hv : vw = true → qt = true := by decide) (hh : p.hot = false := by rfl)
    (hb : ∀ env : Env, attributeBase e m env (eval e env) = eval e env := by exact fun _ => rfl) (hl : (a.endLine == mp.line) = true := by rfl) (hs : ∀ env : Env, starEach [Expr.Call (.Attribute e m a) [] [] mp] env = [(false, eval (Expr.Call (.Attribute e m a) [] [] mp) env)] := by exact fun _ => rfl) :
    JE E G p false (qt && true) (.Call (.Name x q) [.Call (.Attribute e m a) [] [] mp] [] pos) (evOp gSumV (evCons vw true f evNil)) := fun X W hA hT => by
  subst hx hy
  obtain ⟨g1, _, _⟩ := at_gl hg hA
  refine PE.mono (pe_sumVals (hA.calm hh) g1 (by rw [hA.mg]; exact hm) (ha X W hA hT) (hb _) hl (hs _)) fun σ H Q h => ?_
  have h1 := rd_op (snd_of G gSumV) (rd_cons (fun _ _ _ h => h) rd_nil hv) σ H Q h
  refine rdE.mono (fun v H1 h2 => ?_) h1
  obtain ⟨Z, S, ds, d, zs, a, e, k⟩ := h2
  unfold gSumV at e
  split at e
  · rename_i m kvs
    obtain ⟨_, A, ev, r1⟩ := argv1 a
    cases ev
    obtain ⟨p, ws, rfl, hh, hl, he, _⟩ := r1.dicV
    cases ei : intsOf (kvs.map (·.2)) with
    | none => rw [ei] at e; cases e
    | some ns =>
      rw [ei] at e
      cases e
      exact ⟨p, ws, ns, rfl, hh, vints (S := S) ei hl fun i p q e1 e2 => let ⟨B, r, _⟩ := he i p q e1 e2; ⟨B, r, fun _ _ => True.intro⟩, k.int⟩
  · cases e
theorem isD_of {Z S : AS} {H : Hp} {d : D} {v : V} {A : AS} (r : Rep G Z S H d v A) (h : isDic d = true) : ∃ a, v = .ref a ∧ IsD H a := by
  cases d <;> first | (cases h; done) | skip
  obtain ⟨a, ws, rfl, hh, _⟩ := r.dicV
  exact ⟨a, rfl, .inl ⟨ws, hh⟩⟩
theorem lk_get {Z S : AS} {H : Hp} {m : Fl} {kvs : List (Key × D)} {kd : D} {κ : Key} {x y : V} {A B : AS} (r1 : Rep G Z S H (.dic m kvs) x A) (r2 : Rep G Z S H kd y B) (ek : keyD kd = some κ) :
    ∃ a, x = .ref a ∧ ((lkK κ kvs = none ∧ DGet H a y none) ∨ ∃ d w B, lkK κ kvs = some d ∧ DGet H a y (some w) ∧ Rep G Z S H d w B) := by
  obtain ⟨p, ws, rfl, hh, hl, he, _⟩ := r1.dicV
  rw [r2.keyV ek]
  refine ⟨p, rfl, ?_⟩
  rcases lkK_at κ hl with ⟨q1, q2⟩ | ⟨i, d', w, q1, q2, q3, q4⟩
  · exact .inl ⟨q1, by rw [← q2]; exact dget_rd hh⟩
  · obtain ⟨B', rB, _⟩ := he i _ _ q3 q4
    exact .inr ⟨d', w, B', q1, by rw [← q2]; exact dget_rd hh, rB⟩
theorem j_dget1 {v1 q1 v2 q2 : Bool} {o e : Expr} {a pos : Pos} {m : Str} {fo fa : DS → Option ER} (hG : G.K = E.K) (hm : m = Str.ofString "get") (h1 : JE E G p v1 q1 o fo) (h2 : JE E G p v2 q2 e fa) (k1 : v1 = true → q1 = true := by decide) (k2 : v2 = true → q2 = true := by decide)
    (hb : ∀ env : Env, attributeBase o m env (eval o env) = eval o env := by exact fun _ => rfl)
    (hf : ∀ env : Env, ((backTo pos (starEach [e] env)).all (fun x => !x.1) && (backToKw pos (keywordEach [] env)).all (fun x => x.1.isSome) && decide (([e] : List Expr).length + ([] : List Keyword).length + (if ([] : List Keyword).isEmpty then 0 else 1) < 30)) = true := by exact fun _ => rfl)
    (hl : (a.endLine == pos.line) = true := by rfl) (ht : ∀ env : Env, backTo pos (starEach [e] env) = [(false, eval e env)] := by exact fun _ => rfl) :
    JE E G p false (q1 && (q2 && true)) (.Call (.Attribute o m a) [e] [] pos) (evOp gGet1 (evCons v1 (q2 && true) (evGuard isDic fo) (evCons v2 true fa evNil))) := fun X W hA hT => by
  subst hm
  refine PE.mono (pe_dget1 (by have := hA.un; omega) (h1 X W hA hT) (h2 X W hA hT) ⟨hb _, hf _, hl, ht _⟩) fun σ H Q h => ?_
  have g1 := rd_op (snd_of G gGet1) (rd_cons (rd_guard (P := fun v H => ∃ a, v = .ref a ∧ IsD H a) (fun Z S H d v A r hd => isD_of r hd) (fun _ _ _ h => h)) (rd_cons (fun _ _ _ h => h) rd_nil k2) k1) σ H Q h
  refine rdE.mono (fun v H1 ⟨⟨a, ea, ia⟩, h2⟩ => ⟨a, ea, ia, rdE.mono (fun y H2 h3 => ?_) h2⟩) g1
  obtain ⟨Z, S, ds, d, zs, ar, e, k⟩ := h3
  unfold gGet1 at e
  split at e
  · rename_i m kvs kd
    obtain ⟨x', y', A, B, ev, r1, r2⟩ := argv2 ar
    cases ev
    cases ek : keyD kd with
    | none => rw [ek] at e; cases e
    | some κ =>
      rw [ek] at e
      simp only [Option.bind_some] at e
      obtain ⟨a', ea', hh⟩ := lk_get r1 r2 ek
      rw [ea] at ea'; cases ea'
      rcases hh with ⟨q1, q2⟩ | ⟨d', w, B', q1, q2, rB⟩
      · rw [q1] at e; cases e
        exact ⟨none, q2, k.non⟩
      · rw [q1] at e
        simp only at e
        split at e
        · rename_i hf
          cases e
          exact ⟨some w, q2, k.old (rB.frozen hf).1⟩
        · cases e
  · cases e
theorem j_dget2 {v1 q1 v2 q2 v3 q3 : Bool} {o e e3 : Expr} {a pos : Pos} {m : Str} {fo fa fx : DS → Option ER} (hG : G.K = E.K) (hm : m = Str.ofString "get") (h1 : JE E G p v1 q1 o fo) (h2 : JE E G p v2 q2 e fa) (h3 : JE E G p v3 q3 e3 fx) (k1 : v1 = true → q1 = true := by decide) (k2 : v2 = true → q2 = true := by decide) (k3 : v3 = true → q3 = true := by decide)
    (hb : ∀ env : Env, attributeBase o m env (eval o env) = eval o env := by exact fun _ => rfl)
    (hf : ∀ env : Env, ((backTo pos (starEach [e, e3] env)).all (fun x => !x.1) && (backToKw pos (keywordEach [] env)).all (fun x => x.1.isSome) && decide (([e, e3] : List Expr).length + ([] : List Keyword).length + (if ([] : List Keyword).isEmpty then 0 else 1) < 30)) = true := by exact fun _ => rfl)
    (hl : (a.endLine == pos.line) = true := by rfl) (ht : ∀ env : Env, backTo pos (starEach [e, e3] env) = [(false, eval e env), (false, eval e3 env)] := by exact fun _ => rfl) :
    JE E G p false (q1 && (q2 && (q3 && true))) (.Call (.Attribute o m a) [e, e3] [] pos) (evOp gGet2 (evCons v1 (q2 && (q3 && true)) (evGuard isDic fo) (evCons v2 (q3 && true) fa (evCons v3 true fx evNil)))) := fun X W hA hT => by
  subst hm
  refine PE.mono (pe_dget2 (by have := hA.un; omega) (h1 X W hA hT) (h2 X W hA hT) (h3 X W hA hT) ⟨hb _, hf _, hl, ht _⟩) fun σ H Q h => ?_
  have g1 := rd_op (snd_of G gGet2) (rd_cons (rd_guard (P := fun v H => ∃ a, v = .ref a ∧ IsD H a) (fun Z S H d v A r hd => isD_of r hd) (fun _ _ _ h => h)) (rd_cons (fun _ _ _ h => h) (rd_cons (fun _ _ _ h => h) rd_nil k3) k2) k1) σ H Q h
  refine rdE.mono (fun v H1 ⟨⟨a, ea, ia⟩, h2⟩ => ⟨a, ea, ia, rdE.mono (fun y H2 h3 => rdE.mono (fun z H3 h4 => ?_) h3) h2⟩) g1
  obtain ⟨Z, S, ds, d, zs, ar, e, k⟩ := h4
  unfold gGet2 at e
  split at e
  · rename_i m kvs kd xd
    obtain ⟨x', y', z', A, B, C, ev, r1, r2, r3⟩ := argv3 ar
    cases ev
    cases ek : keyD kd with
    | none => rw [ek] at e; cases e
    | some κ =>
      rw [ek] at e
      simp only [Option.bind_some] at e
      obtain ⟨a', ea', hh⟩ := lk_get r1 r2 ek
      rw [ea] at ea'; cases ea'
      rcases hh with ⟨q1, q2⟩ | ⟨d', w, B', q1, q2, rB⟩
      · rw [q1] at e
        simp only at e
        split at e
        · rename_i hf
          cases e
          exact ⟨none, q2, k.old (r3.frozen hf).1⟩
        · cases e
      · rw [q1] at e
        simp only at e
        split at e
        · rename_i hf
          cases e
          exact ⟨some w, q2, k.old (rB.frozen hf).1⟩
        · cases e
  · cases e
/-- {} -/
def evDnew : DS → Option ER := fun δ => some (.ok (.dic .o []), δ)
theorem rd_dnew {W : WX} : ∀ σ H Q, rdE G W false true evDnew σ H Q → tDNewK σ H Q := by
  rintro σ H Q ⟨δ, Z, S, FS, sr, -, ok, -⟩ q hq
  have nz : ∀ x, x = q → ¬ Z x ∧ ¬ Own S x ∧ ¬ Own FS x := fun x e => by
    subst e
    refine ⟨fun z => ?_, fun z => ?_, fun z => ?_⟩
    · obtain ⟨o, e⟩ := sr.zs x z; rw [hq] at e; cases e
    · obtain ⟨o, e⟩ := sr.ss x z; rw [hq] at e; cases e
    · obtain ⟨o, e⟩ := sr.own x z; rw [hq] at e; cases e
  have sm := same_upd (o := .dK []) hq
  refine ok _ δ rfl (.ref q) _ Z FS (fun x => x = q) ⟨sr.same sm, Step.same sm fun x z => z.imp id fun e => by subst e; exact hq, ?_, fun _ => ⟨rfl, sm⟩⟩
  rw [if_neg Bool.false_ne_true]
  exact ⟨.dco upd_same rfl (fun i p q e => by simp at e) fun _ => Iff.rfl, nz⟩
theorem j_dnew {pos : Pos} : JE E G p false true (.Dict [] [] pos) evDnew := fun X W hA hT => PE.mono pe_dnewK rd_dnew
/-- a built-in type, where nothing is handled -/
theorem j_tyC {ks : List Bool} {qt : Bool} {x : Str} {q pos : Pos} {e : Expr} {es : List Expr} {id : String} {g : List D → Option D} {fa : DS → Option EA} (hG : G.K = E.K) (ho : ∀ {X}, XO G X → X.calm = true → CallOk G X (.type id) g) (hg : glOk p x = true) (hm : E.mg x = none) (hb : bootBuiltins x = some (.type id))
    (ha : JA E G p ks qt (e :: es) fa) (hh : p.hot = false := by rfl) (hs : StarNo e es := by exact fun _ => rfl) (hs2 : NoStar es := by exact fun _ _ => rfl) : JE E G p false qt (.Call (.Name x q) (e :: es) [] pos) (evOp g fa) := fun X W hA hT =>
  let ⟨g1, g2, g3⟩ := at_gl hg hA
  PE.mono (pe_callTy (ho (hA.xo hG) (hA.calm hh)) g1 (by rw [hA.mg]; exact hm) hb (ha X W hA hT) g3 g2 (hs _) (hs2 _ _)) fun σ H Q h => rd_op (snd_of G g) (fun _ _ _ h => h) σ H Q h
end
end PD
/-! P, part 47: dicts written: d[k] = e, del d[k]; of a name, of an attribute. -/
namespace PD
open PySem L2

/-- name[k] = e, a dict -/
def evDPut (i : Nat) (f fk : DS → Option ER) : DS → Option ES := fun δ => match f δ with
  | none => none
  | some (.ex x, δ') => some (.ex x, δ')
  | some (.ok d, δ') => match δ'[i]? with
    | some (some _) => match fk δ' with
      | none => none
      | some (.ex x, δ2) => some (.ex x, δ2)
      | some (.ok kd, δ2) => match keyD kd, δ2[i]? with
        | some κ, some (some (.dic .o kvs)) => if kvs.length < 1000000 then some (.nx, δ2.set i (some (.dic .o (pK κ (cap d) kvs)))) else none
        | _, _ => none
    | _ => none
def dicF (c k : Nat) : Option (Option D) → Option (List (Nat × D) × List (Key × D))
  | some (some (.ins .oo c' fs)) => if c' = c then (match lkN k fs with
    | some (.dic .o kvs) => some (fs, kvs)
    | _ => none) else none
  | _ => none
/-- name.f[k] = e, a dict -/
def evDPutF (i c k : Nat) (f fk : DS → Option ER) : DS → Option ES := fun δ => match f δ with
  | none => none
  | some (.ex x, δ') => some (.ex x, δ')
  | some (.ok d, δ') => match dicF c k δ'[i]? with
    | some _ => match fk δ' with
      | none => none
      | some (.ex x, δ2) => some (.ex x, δ2)
      | some (.ok kd, δ2) => match keyD kd, dicF c k δ2[i]? with
        | some κ, some (fs, kvs) => if kvs.length < 1000000 then some (.nx, δ2.set i (some (.ins .oo c (putN k (.dic .o (pK κ (cap d) kvs)) fs)))) else none
        | _, _ => none
    | _ => none
/-- del name[k] -/
def evDDel (i : Nat) (fk : DS → Option ER) : DS → Option ES := fun δ => match δ[i]? with
  | some (some _) => match fk δ with
    | none => none
    | some (.ex x, δ2) => some (.ex x, δ2)
    | some (.ok kd, δ2) => match keyD kd, δ2[i]? with
      | some κ, some (some (.dic .o kvs)) => if (lkK κ kvs).isSome then some (.nx, δ2.set i (some (.dic .o (dK κ kvs)))) else none
      | _, _ => none
  | _ => none
/-- del name.f[k] -/
def evDDelF (i c k : Nat) (fk : DS → Option ER) : DS → Option ES := fun δ => match dicF c k δ[i]? with
  | some _ => match fk δ with
    | none => none
    | some (.ex x, δ2) => some (.ex x, δ2)
    | some (.ok kd, δ2) => match keyD kd, dicF c k δ2[i]? with
      | some κ, some (fs, kvs) => if (lkK κ kvs).isSome then some (.nx, δ2.set i (some (.ins .oo c (putN k (.dic .o (dK κ kvs)) fs)))) else none
      | _, _ => none
  | _ => none
section
variable {G : GC} {W : WX} {X : Cx} {n : Nat} {pn : List Nat}
theorem dicF_of {c k : Nat} {o : Option (Option D)} {fs : List (Nat × D)} {kvs : List (Key × D)} (h : dicF c k o = some (fs, kvs)) : o = some (some (.ins .oo c fs)) ∧ lkN k fs = some (.dic .o kvs) := by
  unfold dicF at h
  split at h
  · split at h
    · rename_i hc
      split at h
      · rename_i hk
        cases h
        exact ⟨by rw [hc], hk⟩
      · cases h
    · cases h
  · cases h
theorem SR.dicO {Z : AS} {S : Nat → AS} {H : Hp} {δ : DS} {σ : St} {FS : Nat → AS} {i : Nat} {kvs : List (Key × D)} (r : SR G Z S H δ σ FS) (e : δ[i]? = some (some (.dic .o kvs))) : ∃ a ws, σ[i]? = some (some (.ref a)) ∧ H a = some (.dK ws) ∧ kvs.map (·.1) = ws.map (·.1) ∧ (∀ (j : Nat) p q, kvs[j]? = some p → ws[j]? = some q → RepF G Z H p.2 q.2) ∧ ∀ x, FS i x ↔ x = a := by
  obtain ⟨v, ev, rp⟩ := r.slot i _ e
  cases rp with
  | fz h _ => exact absurd (show false = true from frz_of h) Bool.false_ne_true
  | dco h hl he hA => exact ⟨_, _, ev, h, hl, he, hA⟩
/-- what an attribute of an owned instance holds, and the instance with something else there -/
theorem SR.fldX {Z : AS} {S : Nat → AS} {H : Hp} {δ : DS} {σ : St} {FS : Nat → AS} {i c k : Nat} {fs : List (Nat × D)} {d0 : D} (hF : FldInj G) (r : SR G Z S H δ σ FS) (e : δ[i]? = some (some (.ins .oo c fs))) (hk : lkN k fs = some d0) : ∃ (a dx : Addr) (gs : List (Str × V)) (w : V) (B' : AS), σ[i]? = some (some (.ref a)) ∧ H a = some (.ins (G.cls c) dx gs) ∧ gs.lookup (G.fld k) = some w ∧ Rep G Z (S i) H d0 w B' ∧ (∀ x, B' x → FS i x) ∧
    ∀ (d2 : D) (b : Addr) (o : HO) (Z2 : AS) (H2 : Hp), B' b → (∀ x, Z x → Z2 x) → (∀ x, Z2 x → ¬ FS i x) → (∀ x o, H x = some o → H2 x = some o) → Rep G Z2 (S i) (upd H2 b o) d2 w B' →
      Rep G Z2 (S i) (upd H2 b o) (.ins .oo c (putN k d2 fs)) (.ref a) (FS i) := by
  obtain ⟨a, dx, gs, B, ev, hh, hl, he, hd, hna, ho, hA⟩ := r.insO e
  obtain ⟨j, w, h1, h2, h3, hp, hq⟩ := lk_at hF hk hl
  have rp := he j _ _ h1 h2
  have bi : ∀ x, B j x → FS i x := fun x z => (hA x).mpr (.inr ⟨j, z⟩)
  refine ⟨a, dx, gs, w, B j, ev, hh, h3, rp, bi, fun d2 b o Z2 H2 jb hz hz2 hk2 r2 => ?_⟩
  have ib := bi b jb
  have nb : a ≠ b := fun q => hna j (by rw [q]; exact jb)
  have nS := (r.nz b ⟨i, ib⟩).2
  have j1 : j < fs.length := (List.getElem?_eq_some_iff.mp h1).1
  rw [hp]
  refine .ioo B (by rw [upd_ne nb]; exact hk2 _ _ hh) (dx := dx) (ws := gs) ?_ (fun l p q e1 e2 => ?_) hd hna (fun l x z => by simpa using ho l x z) hA
  · rw [List.map_set, hl]
    refine List.ext_getElem? fun m => ?_
    by_cases hm : m = j
    · subst hm
      have : m < (gs.map (·.1)).length := by rw [← hl]; simpa using j1
      rw [List.getElem?_set_self this, List.getElem?_map, h2]
      rfl
    · rw [List.getElem?_set_ne (Ne.symm hm)]
  · by_cases hlj : l = j
    · subst hlj
      rw [List.getElem?_set_self j1] at e1
      rw [h2] at e2
      cases e1; cases e2
      exact r2
    · rw [List.getElem?_set_ne (Ne.symm hlj)] at e1
      refine (he l p q e1 e2).mono hz (fun _ z => z) fun x z o e => ?_
      rw [upd_ne]; exact hk2 _ _ e
      rintro rfl
      rcases z with z | z | z
      · exact hz2 _ (hz _ z) ib
      · exact nS ⟨i, z⟩
      · exact hlj (hd l j _ z jb)
theorem SR.fldD {Z : AS} {S : Nat → AS} {H : Hp} {δ : DS} {σ : St} {FS : Nat → AS} {i c k : Nat} {fs : List (Nat × D)} {kvs : List (Key × D)} (hF : FldInj G) (r : SR G Z S H δ σ FS) (e : δ[i]? = some (some (.ins .oo c fs))) (hk : lkN k fs = some (.dic .o kvs)) : ∃ (a dx : Addr) (gs : List (Str × V)) (b : Addr) (ws : List (Key × V)), σ[i]? = some (some (.ref a)) ∧ H a = some (.ins (G.cls c) dx gs) ∧ gs.lookup (G.fld k) = some (.ref b) ∧ H b = some (.dK ws) ∧ kvs.map (·.1) = ws.map (·.1) ∧
    (∀ (j : Nat) p q, kvs[j]? = some p → ws[j]? = some q → RepF G Z H p.2 q.2) ∧ FS i b ∧
    ∀ (ys : List (Key × D)) (us : List (Key × V)), ys.map (·.1) = us.map (·.1) → (∀ (j : Nat) p q, ys[j]? = some p → us[j]? = some q → RepF G Z H p.2 q.2) → Rep G Z (S i) (upd H b (.dK us)) (.ins .oo c (putN k (.dic .o ys) fs)) (.ref a) (FS i) := by
  obtain ⟨a, dx, gs, w, B', ev, hh, h3, rp, bi, mk⟩ := r.fldX hF e hk
  cases rp with
  | fz h _ => exact absurd (show false = true from frz_of h) Bool.false_ne_true
  | @dco b _ ws _ hb hlb heb hAb =>
    have ib := bi b ((hAb b).mpr rfl)
    have nZ := (r.nz b ⟨i, ib⟩).1
    refine ⟨a, dx, gs, b, ws, ev, hh, h3, hb, hlb, heb, ib, fun ys us hyl hye => ?_⟩
    refine mk _ b _ Z H ((hAb b).mpr rfl) (fun _ z => z) (fun x z q => (r.nz x ⟨i, q⟩).1 z) (fun _ _ e => e) (.dco upd_same hyl (fun m p q e1 e2 => (hye m p q e1 e2).mono (fun _ z => z) fun x z o e => ?_) hAb)
    rw [upd_ne]; exact e
    rintro rfl
    exact nZ z
theorem keyE {vk q2 : Bool} {S : Nat → AS} {σ : St} {H : Hp} {Z : AS} {FS : Nat → AS} {d : D} {δ' : DS} {v : V} {H' : Hp} {Z' : AS} {FS' : Nat → AS} {A : AS} {κ : Key} (p : PostE G S vk q2 σ H Z FS d δ' v H' Z' FS' A) (h : keyD d = some κ) : v = kV κ := by
  have vl := p.vl
  split at vl
  · exact vl.1.keyV h
  · exact vl.1.keyV h
theorem rd_dput {q1 q2 vk : Bool} {i : Nat} {f fk : DS → Option ER} {te ti : TE} (ha : ∀ σ H Q, rdE G W false q1 f σ H Q → te σ H Q) (hk : ∀ σ H Q, rdE G W vk q2 fk σ H Q → ti σ H Q) : ∀ D σ H, rdS G W n pn (evDPut i f fk) D σ H → sDPut (tVar i) ti te D σ H := by
  rintro D σ H ⟨hn, δ, Z, S, FS, sr, r, hr, w⟩
  unfold evDPut at hr
  refine ha σ H _ ⟨δ, Z, S, FS, sr, ?_, fun d δ' h v H' Z' FS' A p => ?_, fun x δ' h c dd H' Z' FS' p => ?_⟩
  · cases q : f δ with
    | none => rw [q] at hr; cases hr
    | some w => exact ⟨w, rfl⟩
  · rw [h] at hr
    simp only at hr
    split at hr
    · rename_i d0 e0
      obtain ⟨rf, srC, stC⟩ := p.cap
      obtain ⟨v0, ev0, _⟩ := srC.slot i _ e0
      refine ⟨v0, ev0, ?_⟩
      refine hk σ H' _ ⟨δ', _, S, FS', srC, ?_, fun kd δ2 h2 kv H2 Z2 FS2 A2 p2 => ?_, fun x δ2 h2 c dd H2 Z2 FS2 p2 => ?_⟩
      · cases q : fk δ' with
        | none => rw [q] at hr; cases hr
        | some w => exact ⟨w, rfl⟩
      · rw [h2] at hr
        simp only at hr
        split at hr
        · rename_i κ kvs ek e2
          split at hr
          · rename_i hz
            cases hr
            have kv' := keyE p2 ek
            subst kv'
            obtain ⟨a, ws, ev, ha', hl, he, hA⟩ := p2.sr.dicO e2
            rw [ev0] at ev
            cases ev
            have rf2 : RepF G Z2 H2 (cap d) v := rf.step p2.st fun x z => (srC.nz x z).1
            have nZ := (p2.sr.nz a ⟨i, (hA a).mpr rfl⟩).1
            have hil : i < δ2.length := (List.getElem?_eq_some_iff.mp e2).1
            have keep : ∀ x, Z2 x → x ≠ a := fun x z q => nZ (q ▸ z)
            have len : kvs.length = ws.length := by simpa using congrArg List.length hl
            obtain ⟨m1, m2⟩ := pK_at (k := κ) hl he rf2
            have rp : Rep G Z2 (S i) (upd H2 a (.dK (putK ws κ v))) (.dic .o (pK κ (cap d) kvs)) (.ref a) (fun x => x = a) :=
              .dco upd_same m1 (fun l x y e1 e2 => (m2 l x y e1 e2).mono (fun _ z => z) fun b z o e => by rw [upd_ne (keep b z)]; exact e) fun _ => Iff.rfl
            obtain ⟨sr2, st2⟩ := p2.sr.write ev0 ((hA a).mpr rfl) hil rp fun x q => (hA x).mpr q
            refine ⟨a, _, rfl, DPut.k ha' (by rw [← len, sizeLine_eq]; omega), ?_⟩
            exact w.nx _ rfl σ _ _ _ ⟨sr2, (stC.trans (p2.st.sub fun x z => .inl z)).trans st2, Pin.refl _ _⟩
          · cases hr
        · cases hr
      · rw [h2] at hr; cases hr
        exact w.ex x _ rfl c dd σ H2 Z2 FS2 ⟨p2.sr, stC.trans p2.st, p2.xr, Pin.refl _ _⟩
    · cases hr
  · rw [h] at hr; cases hr
    exact w.ex x _ rfl c dd σ H' Z' FS' p.q
theorem rd_ddel {q2 vk : Bool} {i : Nat} {fk : DS → Option ER} {ti : TE} (hk : ∀ σ H Q, rdE G W vk q2 fk σ H Q → ti σ H Q) : ∀ D σ H, rdS G W n pn (evDDel i fk) D σ H → sDDel (tVar i) ti D σ H := by
  rintro D σ H ⟨hn, δ, Z, S, FS, sr, r, hr, w⟩
  unfold evDDel at hr
  split at hr
  · rename_i d0 e0
    obtain ⟨v0, ev0, _⟩ := sr.slot i _ e0
    refine ⟨v0, ev0, ?_⟩
    refine hk σ H _ ⟨δ, _, S, FS, sr, ?_, fun kd δ2 h2 kv H2 Z2 FS2 A2 p2 => ?_, fun x δ2 h2 c dd H2 Z2 FS2 p2 => ?_⟩
    · cases q : fk δ with
      | none => rw [q] at hr; cases hr
      | some w => exact ⟨w, rfl⟩
    · rw [h2] at hr
      simp only at hr
      split at hr
      · rename_i κ kvs ek e2
        split at hr
        · rename_i hz
          cases hr
          have kv' := keyE p2 ek
          subst kv'
          obtain ⟨a, ws, ev, ha', hl, he, hA⟩ := p2.sr.dicO e2
          rw [ev0] at ev
          cases ev
          have nZ := (p2.sr.nz a ⟨i, (hA a).mpr rfl⟩).1
          have hil : i < δ2.length := (List.getElem?_eq_some_iff.mp e2).1
          have keep : ∀ x, Z2 x → x ≠ a := fun x z q => nZ (q ▸ z)
          obtain ⟨m1, m2⟩ := dK_at (k := κ) hl he
          have rp : Rep G Z2 (S i) (upd H2 a (.dK (dropK ws κ))) (.dic .o (dK κ kvs)) (.ref a) (fun x => x = a) :=
            .dco upd_same m1 (fun l x y e1 e2 => (m2 l x y e1 e2).mono (fun _ z => z) fun b z o e => by rw [upd_ne (keep b z)]; exact e) fun _ => Iff.rfl
          obtain ⟨sr2, st2⟩ := p2.sr.write ev0 ((hA a).mpr rfl) hil rp fun x q => (hA x).mpr q
          refine ⟨a, ws, κ, rfl, ha', rfl, ?_, ?_⟩
          · rcases lkK_at κ hl with ⟨q1, q2⟩ | ⟨i, d', w, q1, q2, q3, q4⟩
            · rw [q1] at hz; cases hz
            · rw [q2]; rfl
          · exact w.nx _ rfl σ _ _ _ ⟨sr2, (p2.st.sub fun x z => .inl z).trans st2, Pin.refl _ _⟩
        · cases hr
      · cases hr
    · rw [h2] at hr; cases hr
      exact w.ex x _ rfl c dd σ H2 Z2 FS2 p2.q
  · cases hr
theorem rd_dputF {q1 vk : Bool} {i c k : Nat} {f fk : DS → Option ER} {te ti : TE} (hF : FldInj G) (hc : Cls G.K (G.cls c)) (hn : NoAttr G.K (G.cls c) (G.fld k)) (ha : ∀ σ H Q, rdE G W false q1 f σ H Q → te σ H Q) (hk : ∀ σ H Q, rdE G W vk true fk σ H Q → ti σ H Q) : ∀ D σ H, rdS G W n pn (evDPutF i c k f fk) D σ H → sDPut (tFld G.K (tVar i) (G.fld k)) ti te D σ H := by
  rintro D σ H ⟨hn', δ, Z, S, FS, sr, r, hr, w⟩
  unfold evDPutF at hr
  refine ha σ H _ ⟨δ, Z, S, FS, sr, ?_, fun d δ' h v H' Z' FS' A p => ?_, fun x δ' h c dd H' Z' FS' p => ?_⟩
  · cases q : f δ with
    | none => rw [q] at hr; cases hr
    | some w => exact ⟨w, rfl⟩
  · rw [h] at hr
    simp only at hr
    split at hr
    · rename_i p0 e0
      obtain ⟨fs0, kvs0⟩ := p0
      obtain ⟨e0, hk0⟩ := dicF_of e0
      obtain ⟨rf, srC, stC⟩ := p.cap
      obtain ⟨a, dx, gs, b, ws0, ev, hh, hlk, hb, _⟩ := srC.fldD hF e0 hk0
      refine ⟨.ref a, ev, a, _, dx, gs, .ref b, rfl, hh, hc, hn, hlk, ?_⟩
      refine hk σ H' _ ⟨δ', _, S, FS', srC, ?_, fun kd δ2 h2 kv H2 Z2 FS2 A2 p2 => ?_, fun x δ2 h2 c dd H2 Z2 FS2 p2 => ?_⟩
      · cases q : fk δ' with
        | none => rw [q] at hr; cases hr
        | some w => exact ⟨w, rfl⟩
      · rw [h2] at hr
        simp only at hr
        split at hr
        · rename_i κ fs kvs ek e2
          obtain ⟨e2, hk2⟩ := dicF_of e2
          split at hr
          · rename_i hz
            cases hr
            have kv' := keyE p2 ek
            subst kv'
            obtain ⟨_, sm⟩ := p2.qq rfl
            obtain ⟨a', dx', gs', b', ws, ev', hh', hlk', hb', hl, he, ib, mk⟩ := p2.sr.fldD hF e2 hk2
            rw [ev] at ev'
            cases ev'
            rw [sm _ _ hh] at hh'
            cases hh'
            rw [hlk] at hlk'
            cases hlk'
            have rf2 : RepF G Z2 H2 (cap d) v := rf.step p2.st fun x z => (srC.nz x z).1
            have hil : i < δ2.length := (List.getElem?_eq_some_iff.mp e2).1
            have len : kvs.length = ws.length := by simpa using congrArg List.length hl
            obtain ⟨m1, m2⟩ := pK_at (k := κ) hl he rf2
            obtain ⟨sr2, st2⟩ := p2.sr.write ev ib hil (mk _ _ m1 m2) fun x q => q
            refine ⟨b, _, rfl, DPut.k hb' (by rw [← len, sizeLine_eq]; omega), ?_⟩
            exact w.nx _ rfl σ _ _ _ ⟨sr2, (stC.trans (p2.st.sub fun x z => .inl z)).trans st2, Pin.refl _ _⟩
          · cases hr
        · cases hr
      · rw [h2] at hr; cases hr
        exact w.ex x _ rfl c dd σ H2 Z2 FS2 ⟨p2.sr, stC.trans p2.st, p2.xr, Pin.refl _ _⟩
    · cases hr
  · rw [h] at hr; cases hr
    exact w.ex x _ rfl c dd σ H' Z' FS' p.q
theorem rd_ddelF {vk : Bool} {i c k : Nat} {fk : DS → Option ER} {ti : TE} (hF : FldInj G) (hc : Cls G.K (G.cls c)) (hn : NoAttr G.K (G.cls c) (G.fld k)) (hk : ∀ σ H Q, rdE G W vk true fk σ H Q → ti σ H Q) : ∀ D σ H, rdS G W n pn (evDDelF i c k fk) D σ H → sDDel (tFld G.K (tVar i) (G.fld k)) ti D σ H := by
  rintro D σ H ⟨hn', δ, Z, S, FS, sr, r, hr, w⟩
  unfold evDDelF at hr
  split at hr
  · rename_i p0 e0
    obtain ⟨fs0, kvs0⟩ := p0
    obtain ⟨e0, hk0⟩ := dicF_of e0
    obtain ⟨a, dx, gs, b, ws0, ev, hh, hlk, hb, _⟩ := sr.fldD hF e0 hk0
    refine ⟨.ref a, ev, a, _, dx, gs, .ref b, rfl, hh, hc, hn, hlk, ?_⟩
    refine hk σ H _ ⟨δ, _, S, FS, sr, ?_, fun kd δ2 h2 kv H2 Z2 FS2 A2 p2 => ?_, fun x δ2 h2 c dd H2 Z2 FS2 p2 => ?_⟩
    · cases q : fk δ with
      | none => rw [q] at hr; cases hr
      | some w => exact ⟨w, rfl⟩
    · rw [h2] at hr
      simp only at hr
      split at hr
      · rename_i κ fs kvs ek e2
        obtain ⟨e2, hk2⟩ := dicF_of e2
        split at hr
        · rename_i hz
          cases hr
          have kv' := keyE p2 ek
          subst kv'
          obtain ⟨_, sm⟩ := p2.qq rfl
          obtain ⟨a', dx', gs', b', ws, ev', hh', hlk', hb', hl, he, ib, mk⟩ := p2.sr.fldD hF e2 hk2
          rw [ev] at ev'
          cases ev'
          rw [sm _ _ hh] at hh'
          cases hh'
          rw [hlk] at hlk'
          cases hlk'
          have hil : i < δ2.length := (List.getElem?_eq_some_iff.mp e2).1
          obtain ⟨m1, m2⟩ := dK_at (k := κ) hl he
          obtain ⟨sr2, st2⟩ := p2.sr.write ev ib hil (mk _ _ m1 m2) fun x q => q
          refine ⟨b, ws, κ, rfl, hb', rfl, ?_, ?_⟩
          · rcases lkK_at κ hl with ⟨q1, q2⟩ | ⟨i, d', w, q1, q2, q3, q4⟩
            · rw [q1] at hz; cases hz
            · rw [q2]; rfl
          · exact w.nx _ rfl σ _ _ _ ⟨sr2, (p2.st.sub fun x z => .inl z).trans st2, Pin.refl _ _⟩
        · cases hr
      · cases hr
    · rw [h2] at hr; cases hr
      exact w.ex x _ rfl c dd σ H2 Z2 FS2 p2.q
  · cases hr
end
section
variable {E : En} {G : GC} {p : Pl} {X : Cx} {n : Nat} {pn : List Nat}
theorem s_dput {qt q2 vk : Bool} {i : Nat} {x : Str} {q r pos : Pos} {e ek : Expr} {f fk : DS → Option ER} (h : nmOk p i x = true) (ha : JE E G p false qt e f) (hk : JE E G p vk q2 ek fk)
    (hs : ∀ env : Env, swapsWith e (some (.Subscript (.Name x q) ek r)) pos.line env = pure false := by exact fun _ => rfl) : JS E G p n pn (.Assign [.Subscript (.Name x q) ek r] e pos) (evDPut i f fk) := fun X W hA hT _ =>
  PS.mono (ps_dput (by have := hA.un; omega) (at_pe h hA) (hk X W hA hT) (ha X W hA hT) (hs _)) (rd_dput (fun _ _ _ h => h) fun _ _ _ h => h)
theorem s_ddel {q2 vk : Bool} {i : Nat} {x : Str} {q r pos : Pos} {ek : Expr} {fk : DS → Option ER} (h : nmOk p i x = true) (hk : JE E G p vk q2 ek fk) : JS E G p n pn (.Delete [.Subscript (.Name x q) ek r] pos) (evDDel i fk) := fun X W hA hT _ =>
  PS.mono (ps_ddel (at_pe h hA) (hk X W hA hT)) (rd_ddel fun _ _ _ h => h)
theorem s_dputF {qt vk : Bool} {i c k : Nat} {x m : Str} {q r r2 pos : Pos} {e ek : Expr} {f fk : DS → Option ER} (hG : G.K = E.K) (h : At1 E G c k m) (hx : nmOk p i x = true) (ha : JE E G p false qt e f) (hk : JE E G p vk true ek fk)
    (hb : ∀ env : Env, attributeBase (.Name x q) m env (eval (.Name x q) env) = eval (.Name x q) env := by exact fun _ => rfl)
    (hs : ∀ env : Env, swapsWith e (some (.Subscript (.Attribute (.Name x q) m r2) ek r)) pos.line env = pure false := by exact fun _ => rfl) : JS E G p n pn (.Assign [.Subscript (.Attribute (.Name x q) m r2) ek r] e pos) (evDPutF i c k f fk) := fun X W hA hT _ => by
  obtain ⟨g1, g2, g3, rfl⟩ := h
  have g2' : Cls G.K (G.cls c) := by rw [hG]; exact g2
  have g3' : NoAttr G.K (G.cls c) (G.fld k) := by rw [hG]; exact g3
  refine PS.mono (ps_dput (by have := hA.un; omega) (pe_fld (at_pe hx hA) (hb _)) (hk X W hA hT) (ha X W hA hT) (hs _)) ?_
  have := rd_dputF (G := G) (W := W) (n := n) (pn := pn) (q1 := qt) (vk := vk) (i := i) (c := c) (k := k) (f := f) (fk := fk) g1 g2' g3' (fun _ _ _ h => h) (fun _ _ _ h => h)
  rw [hG, ← hA.K] at this
  exact this
theorem s_ddelF {vk : Bool} {i c k : Nat} {x m : Str} {q r r2 pos : Pos} {ek : Expr} {fk : DS → Option ER} (hG : G.K = E.K) (h : At1 E G c k m) (hx : nmOk p i x = true) (hk : JE E G p vk true ek fk)
    (hb : ∀ env : Env, attributeBase (.Name x q) m env (eval (.Name x q) env) = eval (.Name x q) env := by exact fun _ => rfl) : JS E G p n pn (.Delete [.Subscript (.Attribute (.Name x q) m r2) ek r] pos) (evDDelF i c k fk) := fun X W hA hT _ => by
  obtain ⟨g1, g2, g3, rfl⟩ := h
  have g2' : Cls G.K (G.cls c) := by rw [hG]; exact g2
  have g3' : NoAttr G.K (G.cls c) (G.fld k) := by rw [hG]; exact g3
  refine PS.mono (ps_ddel (pe_fld (at_pe hx hA) (hb _)) (hk X W hA hT)) ?_
  have := rd_ddelF (G := G) (W := W) (n := n) (pn := pn) (vk := vk) (i := i) (c := c) (k := k) (fk := fk) g1 g2' g3' (fun _ _ _ h => h)
  rw [hG, ← hA.K] at this
  exact this
end
end PD
/-! P, part 48: dicts told forwards. -/
namespace PD
open PySem L2
def dcO : D → Option (List (Key × D))
  | .dic .o kvs => some kvs
  | _ => none
section
variable {Q : RR D → DS → Prop} {QS : Out → DS → Prop} {δ : DS}
theorem e_dnew : GE evDnew δ Q = Q (.ok (.dic .o [])) δ := ex2
theorem slAny {i : Nat} {β : Type} {o : Option (β × DS)} {Q : β → DS → Prop} : (∃ r δ2, (match δ[i]? with | some (some _) => o | _ => none) = some (r, δ2) ∧ Q r δ2) = sl δ i fun _ => ∃ r δ2, o = some (r, δ2) ∧ Q r δ2 := by
  unfold sl
  cases e : δ[i]? with
  | none => exact Eq.trans ex2n (propext ⟨False.elim, fun ⟨_, e, _⟩ => (by cases e)⟩)
  | some u =>
    cases u with
    | none => exact Eq.trans ex2n (propext ⟨False.elim, fun ⟨_, e, _⟩ => (by cases e)⟩)
    | some d => exact propext ⟨fun h => ⟨d, rfl, h⟩, fun ⟨_, e, h⟩ => h⟩
theorem slD {i : Nat} {β : Type} {g : List (Key × D) → Option (β × DS)} {Q : β → DS → Prop} : (∃ r δ2, (match δ[i]? with | some (some (.dic .o kvs)) => g kvs | _ => none) = some (r, δ2) ∧ Q r δ2) = sl δ i fun d => has (dcO d) fun kvs => ∃ r δ2, g kvs = some (r, δ2) ∧ Q r δ2 := by
  unfold sl
  cases e : δ[i]? with
  | none => exact Eq.trans ex2n (propext ⟨False.elim, fun ⟨_, e, _⟩ => (by cases e)⟩)
  | some o =>
    cases o with
    | none => exact Eq.trans ex2n (propext ⟨False.elim, fun ⟨_, e, _⟩ => (by cases e)⟩)
    | some d =>
      refine Eq.trans ?_ (show has (dcO d) _ = _ from propext ⟨fun h => ⟨d, rfl, h⟩, fun ⟨_, e, h⟩ => (by cases e; exact h)⟩)
      cases d with
      | dic m kvs =>
        cases m with
        | o => rw [show dcO (.dic .o kvs) = some kvs from rfl, has_some]
        | _ => rw [show dcO _ = none from rfl, has_none]; exact ex2n
      | _ => rw [show dcO _ = none from rfl, has_none]; exact ex2n
theorem slF {i c k : Nat} {β : Type} {g : List (Nat × D) → List (Key × D) → Option (β × DS)} {Q : β → DS → Prop} : (∃ r δ2, (match dicF c k δ[i]? with | some (fs, kvs) => g fs kvs | none => none) = some (r, δ2) ∧ Q r δ2) = sl δ i fun d => has (insO c d) fun fs => has (lkN k fs) fun l => has (dcO l) fun kvs => ∃ r δ2, g fs kvs = some (r, δ2) ∧ Q r δ2 := by
  unfold sl
  cases e : δ[i]? with
  | none => exact Eq.trans ex2n (propext ⟨False.elim, fun ⟨_, e, _⟩ => (by cases e)⟩)
  | some o =>
    cases o with
    | none => exact Eq.trans ex2n (propext ⟨False.elim, fun ⟨_, e, _⟩ => (by cases e)⟩)
    | some d =>
      refine Eq.trans ?_ (show has (insO c d) _ = _ from propext ⟨fun h => ⟨d, rfl, h⟩, fun ⟨_, e, h⟩ => (by cases e; exact h)⟩)
      cases d with
      | ins m c' fs =>
        cases m with
        | oo =>
          by_cases h : c' = c
          · rw [show insO c (.ins .oo c' fs) = some fs from if_pos h, has_some]
            simp only [dicF, if_pos h]
            cases lkN k fs with
            | none => rw [has_none]; exact ex2n
            | some l =>
              rw [has_some]
              cases l with
              | dic m kvs =>
                cases m with
                | o => rw [show dcO (.dic .o kvs) = some kvs from rfl, has_some]
                | _ => rw [show dcO _ = none from rfl, has_none]; exact ex2n
              | _ => rw [show dcO _ = none from rfl, has_none]; exact ex2n
          · rw [show insO c (.ins .oo c' fs) = none from if_neg h, has_none]
            simp only [dicF, if_neg h]
            exact ex2n
        | _ => rw [show insO c _ = none from rfl, has_none]; exact ex2n
      | _ => rw [show insO c _ = none from rfl, has_none]; exact ex2n
theorem keyM {β : Type} {kd : D} {g : Key → Option (β × DS)} {Q : β → DS → Prop} : (∃ r δ2, (match keyD kd with | some κ => g κ | none => none) = some (r, δ2) ∧ Q r δ2) = has (keyD kd) fun κ => ∃ r δ2, g κ = some (r, δ2) ∧ Q r δ2 := by
  cases keyD kd with
  | none => rw [has_none]; exact ex2n
  | some a => rw [has_some]
theorem g_dput {i : Nat} {f fk : DS → Option ER} : Go (evDPut i f fk) δ QS = GE f δ (kS (fun d δ' => sl δ' i fun _ => GE fk δ' (kS (fun kd δ2 => has (keyD kd) fun κ => sl δ2 i fun d1 => has (dcO d1) fun kvs => kvs.length < 1000000 ∧ QS .nx (st δ2 i (some (.dic .o (pK κ (cap d) kvs))))) QS)) QS) := by
  let h2 : D → D → DS → Option ES := fun d kd δ2 => match keyD kd with
    | some κ => (match δ2[i]? with | some (some (.dic .o kvs)) => if kvs.length < 1000000 then some (.nx, δ2.set i (some (.dic .o (pK κ (cap d) kvs)))) else none | _ => none)
    | none => none
  let h1 : D → DS → Option ES := fun d δ' => match fk δ' with
      | none => none
      | some (.ex x, δ2) => some (.ex x, δ2)
      | some (.ok kd, δ2) => h2 d kd δ2
  refine Eq.trans (bindS (f := f) (h := fun d δ' => match δ'[i]? with | some (some _) => h1 d δ' | _ => none) (by
      unfold evDPut
      rcases f δ with _ | ⟨d | _, δ'⟩
      · rfl
      · dsimp only
        generalize δ'[i]? = o
        rcases o with _ | _ | _
        · rfl
        · rfl
        · dsimp only [h1]
          generalize fk δ' = q
          rcases q with _ | ⟨kd | _, δ2⟩
          · rfl
          · dsimp only [h2]
            cases keyD kd with
            | none => rfl
            | some κ =>
              dsimp only
              generalize δ2[i]? = o
              rcases o with _ | _ | d
              · rfl
              · rfl
              · cases d with
                | dic m kvs => cases m <;> rfl
                | _ => rfl
          · rfl
      · rfl)) (congrArg _ (kSc fun d δ' => ?_))
  refine Eq.trans slAny (congrArg _ (funext fun d0 => ?_))
  refine Eq.trans (bindS (f := fk) (f' := h1 d) (h := h2 d) (by show h1 d δ' = _; dsimp only [h1]; rcases fk δ' with _ | ⟨_ | _, _⟩ <;> rfl)) (congrArg _ (kSc fun kd δ2 => ?_))
  refine Eq.trans keyM (congrArg _ (funext fun κ => ?_))
  refine Eq.trans slD (congrArg _ (funext fun d1 => congrArg _ (funext fun kvs => ?_)))
  rw [iteN, ex2, st_eq]
theorem g_dputF {i c k : Nat} {f fk : DS → Option ER} : Go (evDPutF i c k f fk) δ QS = GE f δ (kS (fun d δ' => sl δ' i fun d0 => has (insO c d0) fun fs0 => has (lkN k fs0) fun l0 => has (dcO l0) fun _ => GE fk δ' (kS (fun kd δ2 => has (keyD kd) fun κ => sl δ2 i fun d1 => has (insO c d1) fun fs => has (lkN k fs) fun l => has (dcO l) fun kvs => kvs.length < 1000000 ∧ QS .nx (st δ2 i (some (.ins .oo c (putN k (.dic .o (pK κ (cap d) kvs)) fs))))) QS)) QS) := by
  let h2 : D → D → DS → Option ES := fun d kd δ2 => match keyD kd with
    | some κ => (match dicF c k δ2[i]? with | some (fs, kvs) => if kvs.length < 1000000 then some (.nx, δ2.set i (some (.ins .oo c (putN k (.dic .o (pK κ (cap d) kvs)) fs)))) else none | none => none)
    | none => none
  let h1 : D → DS → Option ES := fun d δ' => match fk δ' with
      | none => none
      | some (.ex x, δ2) => some (.ex x, δ2)
      | some (.ok kd, δ2) => h2 d kd δ2
  refine Eq.trans (bindS (f := f) (h := fun d δ' => match dicF c k δ'[i]? with | some (fs, kvs) => h1 d δ' | none => none) (by
      unfold evDPutF
      rcases f δ with _ | ⟨d | _, δ'⟩
      · rfl
      · dsimp only
        generalize dicF c k δ'[i]? = o
        rcases o with _ | ⟨fs0, kvs0⟩
        · rfl
        · dsimp only [h1]
          generalize fk δ' = q
          rcases q with _ | ⟨kd | _, δ2⟩
          · rfl
          · dsimp only [h2]
            cases keyD kd with
            | none => rfl
            | some κ =>
              dsimp only
              generalize dicF c k δ2[i]? = o
              rcases o with _ | ⟨fs, kvs⟩ <;> rfl
          · rfl
      · rfl)) (congrArg _ (kSc fun d δ' => ?_))
  refine Eq.trans (slF (g := fun _ _ => h1 d δ')) (congrArg _ (funext fun d0 => congrArg _ (funext fun fs0 => congrArg _ (funext fun l0 => congrArg _ (funext fun kvs0 => ?_)))))
  refine Eq.trans (bindS (f := fk) (f' := h1 d) (h := h2 d) (by show h1 d δ' = _; dsimp only [h1]; rcases fk δ' with _ | ⟨_ | _, _⟩ <;> rfl)) (congrArg _ (kSc fun kd δ2 => ?_))
  refine Eq.trans keyM (congrArg _ (funext fun κ => ?_))
  refine Eq.trans slF (congrArg _ (funext fun d1 => congrArg _ (funext fun fs => congrArg _ (funext fun l => congrArg _ (funext fun kvs => ?_)))))
  rw [iteN, ex2, st_eq]
theorem g_ddelF {i c k : Nat} {fk : DS → Option ER} : Go (evDDelF i c k fk) δ QS = sl δ i fun d0 => has (insO c d0) fun fs0 => has (lkN k fs0) fun l0 => has (dcO l0) fun _ => GE fk δ (kS (fun kd δ2 => has (keyD kd) fun κ => sl δ2 i fun d1 => has (insO c d1) fun fs => has (lkN k fs) fun l => has (dcO l) fun kvs => (lkK κ kvs).isSome = true ∧ QS .nx (st δ2 i (some (.ins .oo c (putN k (.dic .o (dK κ kvs)) fs))))) QS) := by
  let h2 : D → DS → Option ES := fun kd δ2 => match keyD kd with
    | some κ => (match dicF c k δ2[i]? with | some (fs, kvs) => if (lkK κ kvs).isSome = true then some (.nx, δ2.set i (some (.ins .oo c (putN k (.dic .o (dK κ kvs)) fs)))) else none | none => none)
    | none => none
  let h1 : DS → Option ES := fun δ' => match fk δ' with
      | none => none
      | some (.ex x, δ2) => some (.ex x, δ2)
      | some (.ok kd, δ2) => h2 kd δ2
  have e0 : evDDelF i c k fk δ = (match dicF c k δ[i]? with | some (fs, kvs) => h1 δ | none => none) := by
    unfold evDDelF
    generalize dicF c k δ[i]? = o
    rcases o with _ | ⟨fs0, kvs0⟩
    · rfl
    · dsimp only [h1]
      rcases fk δ with _ | ⟨kd | _, δ2⟩
      · rfl
      · dsimp only [h2]
        cases keyD kd with
        | none => rfl
        | some κ =>
          dsimp only
          generalize dicF c k δ2[i]? = o
          rcases o with _ | ⟨fs, kvs⟩ <;> rfl
      · rfl
  unfold Go
  rw [e0]
  refine Eq.trans (slF (g := fun _ _ => h1 δ)) (congrArg _ (funext fun d0 => congrArg _ (funext fun fs0 => congrArg _ (funext fun l0 => congrArg _ (funext fun kvs0 => ?_)))))
  refine Eq.trans (bindS (f := fk) (f' := h1) (h := h2) (by show h1 δ = _; dsimp only [h1]; rcases fk δ with _ | ⟨_ | _, _⟩ <;> rfl)) (congrArg _ (kSc fun kd δ2 => ?_))
  refine Eq.trans keyM (congrArg _ (funext fun κ => ?_))
  refine Eq.trans slF (congrArg _ (funext fun d1 => congrArg _ (funext fun fs => congrArg _ (funext fun l => congrArg _ (funext fun kvs => ?_)))))
  rw [iteN, ex2, st_eq]
end
section
variable {m : Fl} {kvs : List (Key × D)} {xs : List D} {s : Str} {i : Int} {a b : D} {k : Key}
theorem dcO_o : dcO (.dic .o kvs) = some kvs := rfl
theorem key_s : keyD (.str s) = some (.inr s) := rfl
theorem key_i : keyD (.int i) = some (.inl i) := rfl
theorem isDic_d : isDic (.dic m kvs) = true := rfl
theorem isF_do : isF (.dic .o kvs) = false := rfl
theorem isF_dl : isF (.dic .l kvs) = false := rfl
theorem isF_df : isF (.dic .f kvs) = true := rfl
theorem lend_do : lend (.dic .o kvs) = .dic .l kvs := rfl
theorem lend_dl : lend (.dic .l kvs) = .dic .l kvs := rfl
theorem lend_df : lend (.dic .f kvs) = .dic .f kvs := rfl
theorem frz_do : frz (.dic .o kvs) = .dic .f kvs := rfl
theorem frz_df : frz (.dic .f kvs) = .dic .f kvs := rfl
theorem cap_do : cap (.dic .o kvs) = .dic .f kvs := rfl
theorem cap_df : cap (.dic .f kvs) = .dic .f kvs := rfl
theorem noL_do : noL (.dic .o kvs) = true := rfl
theorem noL_df : noL (.dic .f kvs) = true := rfl
theorem own_d : owned (.dic m kvs) = false := rfl
theorem v_itemUl : gItemU [.lst m xs, a] = gItem [.lst m xs, a] := rfl
theorem v_itemUt : gItemU [.tup xs, a] = gItem [.tup xs, a] := rfl
theorem v_inUl : gInU [a, .lst m xs] = gIn [a, .lst m xs] := by cases a <;> rfl
theorem v_inUt : gInU [a, .tup xs] = gIn [a, .tup xs] := by cases a <;> rfl
theorem v_notInUl : gNotInU [a, .lst m xs] = gNotIn [a, .lst m xs] := by cases a <;> rfl
theorem v_notInUt : gNotInU [a, .tup xs] = gNotIn [a, .tup xs] := by cases a <;> rfl
theorem v_inUs : gInU [.str s, .dic m kvs] = some (.bl (lkK (.inr s) kvs).isSome) := rfl
theorem v_inUi : gInU [.int i, .dic m kvs] = some (.bl (lkK (.inl i) kvs).isSome) := rfl
theorem v_notInUs : gNotInU [.str s, .dic m kvs] = some (.bl (!(lkK (.inr s) kvs).isSome)) := rfl
theorem v_notInUi : gNotInU [.int i, .dic m kvs] = some (.bl (!(lkK (.inl i) kvs).isSome)) := rfl
theorem v_lenUd : gLenU [.dic m kvs] = some (.int kvs.length) := rfl
theorem v_lenUl : gLenU [.lst m xs] = gLen [.lst m xs] := rfl
theorem v_lenUt : gLenU [.tup xs] = gLen [.tup xs] := rfl
theorem v_sortedUl : gSortedU [.lst m xs] = gSorted [.lst m xs] := rfl
theorem v_itemK {kd : D} (hk : keyD kd = some k) (hl : lkK k kvs = some a) (hf : isF a = true) : gItemU [.dic m kvs, kd] = some a := by
  show (keyD kd).bind _ = _
  rw [hk, Option.bind_some, hl, Option.bind_some, if_pos hf]
theorem v_get1 {kd : D} (hk : keyD kd = some k) (hl : lkK k kvs = some a) (hf : isF a = true) : gGet1 [.dic m kvs, kd] = some a := by
  show (keyD kd).bind _ = _
  rw [hk, Option.bind_some, hl]
  simp only
  rw [if_pos hf]
theorem v_get1n {kd : D} (hk : keyD kd = some k) (hl : lkK k kvs = none) : gGet1 [.dic m kvs, kd] = some .non := by
  show (keyD kd).bind _ = _
  rw [hk, Option.bind_some, hl]
theorem v_get2 {kd : D} (hk : keyD kd = some k) (hl : lkK k kvs = some a) (hf : isF a = true) : gGet2 [.dic m kvs, kd, b] = some a := by
  show (keyD kd).bind _ = _
  rw [hk, Option.bind_some, hl]
  simp only
  rw [if_pos hf]
theorem v_get2n {kd : D} (hk : keyD kd = some k) (hl : lkK k kvs = none) (hf : isF b = true) : gGet2 [.dic m kvs, kd, b] = some b := by
  show (keyD kd).bind _ = _
  rw [hk, Option.bind_some, hl]
  simp only
  rw [if_pos hf]
theorem v_dictD (hs : shal m = true) : gDict [.dic m kvs] = some (.dic .o kvs) := if_pos hs
end

/-! ### a table of texts (keys apart), as a dict -/
section
variable {α : Type}
def lkA (n : Str) (S : List (Str × α)) : Option α := (S.find? fun p => decide (p.1 = n)).map (·.2)
def putA (n : Str) (a : α) (S : List (Str × α)) : List (Str × α) := if (S.any fun p => decide (p.1 = n)) = true then S.map (fun p => if p.1 = n then (p.1, a) else p) else S ++ [(n, a)]
def delA (n : Str) (S : List (Str × α)) : List (Str × α) := S.filter fun p => decide (p.1 ≠ n)
def tbl (f : α → D) (S : List (Str × α)) : List (Key × D) := S.map fun p => (.inr p.1, f p.2)
variable {f : α → D} {S : List (Str × α)} {n : Str} {a : α}
theorem inr_eq {x y : Str} : decide ((Sum.inr x : Key) = Sum.inr y) = decide (x = y) := by
  by_cases h : x = y
  · subst h; simp
  · simp [h]
theorem lk_tbl (f : α → D) (S : List (Str × α)) (n : Str) : lkK (.inr n) (tbl f S) = (lkA n S).map f := by
  unfold lkK tbl lkA
  rw [List.find?_map, Option.map_map, Option.map_map]
  have : ((fun kv : Key × D => decide (kv.1 = .inr n)) ∘ fun p : Str × α => (Sum.inr p.1, f p.2)) = fun p => decide (p.1 = n) := by
    funext p
    exact inr_eq
  rw [this]
  rfl
theorem pK_tbl (f : α → D) (S : List (Str × α)) (n : Str) (a : α) : pK (.inr n) (f a) (tbl f S) = tbl f (putA n a S) := by
  unfold pK tbl putA
  have e1 : ((S.map fun p => ((.inr p.1 : Key), f p.2)).any fun kv => decide (kv.1 = .inr n)) = S.any fun p => decide (p.1 = n) := by
    rw [List.any_map]
    congr 1
    funext p
    exact inr_eq
  rw [e1]
  by_cases h : (S.any fun p => decide (p.1 = n)) = true
  · rw [if_pos h, if_pos h, List.map_map, List.map_map]
    refine List.map_congr_left fun p _ => ?_
    simp only [Function.comp]
    by_cases q : p.1 = n
    · simp [q]
    · have : ¬ (Sum.inr p.1 : Key) = Sum.inr n := fun z => q (by cases z; rfl)
      rw [if_neg this, if_neg q]
  · rw [if_neg h, if_neg h, List.map_append]; rfl
theorem dK_tbl (f : α → D) (S : List (Str × α)) (n : Str) : dK (.inr n) (tbl f S) = tbl f (delA n S) := by
  unfold dK tbl delA
  rw [List.filter_map]
  congr 1
  refine List.filter_congr fun p _ => ?_
  simp only [Function.comp]
  by_cases q : p.1 = n
  · simp [q]
  · have : ¬ (Sum.inr p.1 : Key) = Sum.inr n := fun z => q (by cases z; rfl)
    simp [q, this]
theorem keys_tbl (f : α → D) (S : List (Str × α)) : keysD (tbl f S) = (S.map (·.1)).map .str := by
  unfold keysD tbl
  rw [List.map_map, List.map_map]; rfl
theorem len_tbl (f : α → D) (S : List (Str × α)) : (tbl f S).length = S.length := List.length_map _
theorem vals_tbl (f : α → D) (S : List (Str × α)) : (tbl f S).map (·.2) = S.map fun p => f p.2 := by
  unfold tbl
  rw [List.map_map]; rfl
theorem lkA_none : lkA n S = none ↔ n ∉ S.map (·.1) := by
  unfold lkA
  rw [Option.map_eq_none_iff, List.find?_eq_none]
  constructor
  · intro h q
    obtain ⟨p, hp, e⟩ := List.mem_map.mp q
    exact h p hp (by simpa using e)
  · intro h p hp q
    exact h (List.mem_map.mpr ⟨p, hp, by simpa using q⟩)
theorem lkA_some (h : lkA n S = some a) : (n, a) ∈ S := by
  unfold lkA at h
  obtain ⟨p, hp, rfl⟩ := Option.map_eq_some_iff.mp h
  have e : p.1 = n := by simpa using List.find?_some hp
  have := List.mem_of_find?_eq_some hp
  subst e
  exact this
theorem lkA_mem (hn : (S.map (·.1)).Nodup) (h : (n, a) ∈ S) : lkA n S = some a := by
  cases e : lkA n S with
  | none => exact absurd (List.mem_map.mpr ⟨_, h, rfl⟩) (lkA_none.mp e)
  | some b =>
    have hb := lkA_some e
    have : ∀ {S : List (Str × α)}, (S.map (·.1)).Nodup → (n, a) ∈ S → (n, b) ∈ S → a = b := by
      intro S
      induction S with
      | nil => intro _ h; simp at h
      | cons p r ih =>
        intro hn h1 h2
        rw [List.map_cons, List.nodup_cons] at hn
        rcases List.mem_cons.mp h1 with h1 | h1 <;> rcases List.mem_cons.mp h2 with h2 | h2
        · rw [← h1] at h2; cases h2; rfl
        · exact absurd (List.mem_map.mpr ⟨_, h2, by rw [← h1]⟩) hn.1
        · exact absurd (List.mem_map.mpr ⟨_, h1, by rw [← h2]⟩) hn.1
        · exact ih hn.2 h1 h2
    rw [this hn h hb]
theorem any_A : (S.any fun p => decide (p.1 = n)) = true ↔ n ∈ S.map (·.1) := by
  rw [List.any_eq_true]
  constructor
  · rintro ⟨p, hp, e⟩
    exact List.mem_map.mpr ⟨p, hp, by simpa using e⟩
  · intro h
    obtain ⟨p, hp, e⟩ := List.mem_map.mp h
    exact ⟨p, hp, by simpa using e⟩
theorem put_keys (n : Str) (a : α) (S : List (Str × α)) : (putA n a S).map (·.1) = if n ∈ S.map (·.1) then S.map (·.1) else S.map (·.1) ++ [n] := by
  unfold putA
  by_cases h : n ∈ S.map (·.1)
  · rw [if_pos (any_A.mpr h), if_pos h, List.map_map]
    refine List.map_congr_left fun p _ => ?_
    simp only [Function.comp]
    split <;> rfl
  · rw [if_neg (fun q => h (any_A.mp q)), if_neg h, List.map_append]; rfl
theorem put_nodup (h : (S.map (·.1)).Nodup) (n : Str) (a : α) : ((putA n a S).map (·.1)).Nodup := by
  rw [put_keys]
  split
  · exact h
  · rename_i q
    exact List.nodup_append.mpr ⟨h, by simp, fun x hx y hy => by simp at hy; subst hy; rintro rfl; exact q hx⟩
theorem put_mem {p : Str × α} (h : p ∈ putA n a S) : p = (n, a) ∨ (p ∈ S ∧ p.1 ≠ n) := by
  unfold putA at h
  by_cases q : (S.any fun p => decide (p.1 = n)) = true
  · rw [if_pos q] at h
    obtain ⟨p0, h0, e⟩ := List.mem_map.mp h
    by_cases z : p0.1 = n
    · rw [if_pos z] at e
      left; rw [← e, z]
    · rw [if_neg z] at e
      subst e
      exact .inr ⟨h0, z⟩
  · rw [if_neg q] at h
    rcases List.mem_append.mp h with h | h
    · refine .inr ⟨h, fun z => q (any_A.mpr ?_)⟩
      exact List.mem_map.mpr ⟨p, h, z⟩
    · simp at h; exact .inl h
theorem put_len (n : Str) (a : α) (S : List (Str × α)) : (putA n a S).length ≤ S.length + 1 := by
  unfold putA
  split <;> simp
theorem del_keys (n : Str) (S : List (Str × α)) : (delA n S).map (·.1) = (S.map (·.1)).filter fun x => decide (x ≠ n) := by
  unfold delA
  rw [List.filter_map]
  rfl
theorem lk_put (n m : Str) (a : α) (S : List (Str × α)) : lkA m (putA n a S) = if m = n then some a else lkA m S := by
  unfold putA
  by_cases q : (S.any fun p => decide (p.1 = n)) = true
  · rw [if_pos q]
    have key : ∀ S : List (Str × α), lkA m (S.map fun p => if p.1 = n then (p.1, a) else p) = (lkA m S).map fun x => if m = n then a else x := by
      intro S
      induction S with
      | nil => rfl
      | cons p r ih =>
        unfold lkA at ih ⊢
        rw [List.map_cons, List.find?_cons, List.find?_cons]
        by_cases h : p.1 = n
        · rw [if_pos h]
          by_cases z : p.1 = m
          · simp [z, ← h]
          · simp only [z, decide_false]
            exact ih
        · rw [if_neg h]
          by_cases z : p.1 = m
          · have : ¬ m = n := fun y => h (z.trans y)
            simp [z, this]
          · simp only [z, decide_false]
            exact ih
    rw [key]
    by_cases h : m = n
    · subst h
      rw [if_pos rfl]
      cases e : lkA m S with
      | none => exact absurd (any_A.mp q) (lkA_none.mp e)
      | some b => simp
    · simp only [if_neg h]
      cases lkA m S <;> rfl
  · rw [if_neg q]
    unfold lkA
    rw [List.find?_append]
    by_cases h : m = n
    · subst h
      have : S.find? (fun p => decide (p.1 = m)) = none := by
        rw [List.find?_eq_none]
        intro p hp z
        exact q (any_A.mpr (List.mem_map.mpr ⟨p, hp, by simpa using z⟩))
      rw [this]
      simp
    · have : ([(n, a)] : List (Str × α)).find? (fun p => decide (p.1 = m)) = none := by
        have z : ¬ n = m := fun z => h z.symm
        simp [z]
      rw [this, if_neg h]
      simp
/-- sorted(d) of a table -/
def leS (a b : Str) : Bool := leD (.str a) (.str b)
theorem sortOk_s (xs : List Str) (hl : xs.length ≤ 1000000) : sortOk (xs.map .str) = true := by
  unfold sortOk
  rw [dpL_of (f := D.str) (fun _ => by simp [dp])]
  have h1 : ((xs.map D.str).all fun a => (xs.map D.str).all fun b => W.alike (toP a) (toP b)) = true := by simp [toP, W.alike]
  have h2 : ((xs.map D.str).all fun a => noTup (toP a)) = true := by simp [toP, noTup]
  rw [h1, h2, List.length_map, Bool.or_true]
  simpa using hl
theorem v_sortedT {m : Fl} (hl : S.length ≤ 1000000) : gSortedU [.dic m (tbl f S)] = some (.lst .o (((S.map (·.1)).mergeSort leS).map .str)) := by
  show (if sortOk (keysD (tbl f S)) then some (D.lst .o ((keysD (tbl f S)).mergeSort leD)) else none) = _
  rw [keys_tbl, sortOk_s _ (by simpa using hl), if_pos rfl, List.map_mergeSort (r := leS) (s := leD) (f := D.str) fun a _ b _ => rfl]
theorem v_itemTb {kd : D} {m : Fl} (h : lkA n S = some a) (hf : isF (f a) = true) : gItemU [.dic m (tbl f S), .str n] = some (f a) := v_itemK rfl (by rw [lk_tbl, h]; rfl) hf
theorem v_sumT {m : Fl} {g : α → Int} : gSumV [.dic m (tbl (fun a => .int (g a)) S)] = some (.int (S.map fun p => g p.2).sum) := by
  show (intsOf ((tbl _ S).map (·.2))).map _ = _
  rw [vals_tbl]
  have : ∀ S : List (Str × α), intsOf (S.map fun p => D.int (g p.2)) = some (S.map fun p => g p.2) := by
    intro S
    induction S with
    | nil => rfl
    | cons p r ih => rw [List.map_cons, intsOf, ih]; rfl
  rw [this]; rfl
end
/-- isB, where there are classes beside the exceptions -/
theorem isB_okF {ns ns2 fs : List Str} {exm : Nat → Nat → Bool} {E : En} (h : isB ns exm E.K = true) (hn : ∀ i, i < ns.length → ns2.getD i "" = ns.getD i "") : IsOk E (gcF ns2 fs E.K) ns.length exm where
  cls := fun c hc => by
    have := (isB_ok (E := E) h).cls c hc
    show ExcC E.K (He.ga E.K (ns2.getD c ""))
    rw [hn c hc]
    exact this
  kit := fun c j hc hj => by
    have := (isB_ok (E := E) h).kit c j hc hj
    show PySem.W.kitOne E.K (.ref (He.ga E.K (ns2.getD c ""))) (.ref (He.ga E.K (ns2.getD j ""))) = _
    rw [hn c hc, hn j hj]
    exact this
end PD
/-! P, part 49: instances handed on; equal data. -/
namespace PD
open PySem L2
section
variable {c k : Nat} {fs : List (Nat × D)} {d a b : D}
theorem noL_ioo : noL (.ins .oo c fs) = noLN fs := rfl
theorem noL_if : noL (.ins .f c fs) = true := rfl
theorem noL_ill : noL (.ins .ll c fs) = false := rfl
theorem noLN_0 : noLN [] = true := rfl
theorem noLN_s : noLN ((k, d) :: fs) = (noL d && noLN fs) := rfl
theorem v_eqR (h1 : dp 60 a = true) (h2 : dp 60 b = true) (e : toP a = toP b) : gEq [a, b] = some (.bl true) := by
  show (if dp 60 a && dp 60 b then some (D.bl (PyData.eqv (toP a) (toP b))) else none) = _
  rw [h1, h2, ← e, PySem.SeqAt.eqv_refl_plain _ (dp_plain 60 a h1).1]; rfl
theorem v_neR (h1 : dp 60 a = true) (h2 : dp 60 b = true) (e : toP a = toP b) : gNe [a, b] = some (.bl false) := by
  show (if dp 60 a && dp 60 b then some (D.bl (!PyData.eqv (toP a) (toP b))) else none) = _
  rw [h1, h2, ← e, PySem.SeqAt.eqv_refl_plain _ (dp_plain 60 a h1).1]; rfl
end
end PD
/-! P, part 50: max and min of a list; d.pop(k) as a statement; dicts with numbers as keys. -/
namespace PD
open PySem L2

/-- numbers, texts, tuples of these -/
def sc1 : D → Bool
  | .int _ => true
  | .str _ => true
  | _ => false
def fl1 : D → Bool
  | .int _ => true
  | .str _ => true
  | .tup xs => !xs.isEmpty && xs.all sc1
  | _ => false
def ltD (a b : D) : Bool := W.dataLt (toP a) (toP b)
def maxL (x : D) (xs : List D) : D := xs.foldl (fun a y => if ltD a y then y else a) x
def minL (x : D) (xs : List D) : D := xs.foldl (fun a y => if ltD y a then y else a) x
def bestOk (xs : List D) : Bool := xs.all fl1 && dpL 60 xs && xs.all fun a => xs.all fun b => W.alike (toP a) (toP b)
def gMax1 : List D → Option D
  | [.lst m (x :: xs)] => if shal m && bestOk (x :: xs) then some (maxL x xs) else none
  | _ => none
def gMin1 : List D → Option D
  | [.lst m (x :: xs)] => if shal m && bestOk (x :: xs) then some (minL x xs) else none
  | _ => none
theorem sc1_inj {a b : D} (ha : sc1 a = true) (hb : sc1 b = true) (h : toP a = toP b) : a = b := by
  cases a <;> first | (cases ha; done) | skip
  all_goals cases b <;> first | (cases hb; done) | skip
  · simp [toP] at h; rw [h]
  · simp [toP] at h
  · simp [toP] at h
  · simp [toP] at h; rw [h]
theorem scL_inj : ∀ {xs ys : List D}, xs.all sc1 = true → ys.all sc1 = true → toPL xs = toPL ys → xs = ys
  | [], [], _, _, _ => rfl
  | [], _ :: _, _, _, h => by simp [toPL] at h
  | _ :: _, [], _, _, h => by simp [toPL] at h
  | x :: xs, y :: ys, h1, h2, h => by
    rw [List.all_cons, Bool.and_eq_true] at h1 h2
    simp only [toPL, List.cons.injEq] at h
    rw [sc1_inj h1.1 h2.1 h.1, scL_inj h1.2 h2.2 h.2]
theorem fl1_inj {a b : D} (ha : fl1 a = true) (hb : fl1 b = true) (h : toP a = toP b) : a = b := by
  cases a <;> first | (cases ha; done) | skip
  all_goals cases b <;> first | (cases hb; done) | skip
  all_goals simp [toP] at h
  · rw [h]
  · rw [h]
  · simp only [fl1, Bool.and_eq_true] at ha hb
    rw [scL_inj ha.2 hb.2 h]
theorem fold_best (lt : PyData → PyData → Bool) (f : D → D → Bool) (hf : ∀ a b, f a b = lt (toP a) (toP b)) : ∀ (xs : List D) (x : D), toP (xs.foldl (fun a y => if f a y then y else a) x) = (xs.map toP).foldl (fun a y => if lt a y then y else a) (toP x)
  | [], x => rfl
  | y :: r, x => by
    rw [List.map_cons, List.foldl_cons, List.foldl_cons, fold_best lt f hf r, hf]
    by_cases h : lt (toP x) (toP y) = true
    · rw [if_pos h, if_pos h]
    · rw [if_neg h, if_neg h]
theorem best_mem (f : D → D → Bool) : ∀ (xs : List D) (x : D), xs.foldl (fun a y => if f a y then y else a) x ∈ x :: xs
  | [], x => List.mem_cons_self
  | y :: r, x => by
    rw [List.foldl_cons]
    have := best_mem f r (if f x y then y else x)
    rcases List.mem_cons.mp this with h | h
    · rw [h]
      split
      · exact List.mem_cons_of_mem _ List.mem_cons_self
      · exact List.mem_cons_self
    · exact List.mem_cons_of_mem _ (List.mem_cons_of_mem _ h)
section
variable {G : GC} {X : Cx}
theorem best_core {pins : List (Addr × Obj)} {σ : St} {H : Hp} {s : Shared} {Z S : AS} {xs : List D} {vs : List V} {its : List Value} (h : XO G X) (I : Inv X pins σ H s) (hv : Vals vs its) (hl : xs.length = vs.length) (he : ∀ (i : Nat) d w, xs[i]? = some d → vs[i]? = some w → RepF G Z H d w) (ho : bestOk xs = true) :
    (∃ as, ReadsAll s.heap its (xs.map toP) as) ∧ W.AlikeAll (xs.map toP) ∧ X.A.units + 1 + PyData.depthAll (xs.map toP) < cLine := by
  unfold bestOk at ho
  simp only [Bool.and_eq_true] at ho
  obtain ⟨⟨h0, h1⟩, h2⟩ := ho
  have h1' := h1
  rw [dpL_all, List.all_eq_true] at h1'
  refine ⟨?_, ?_, ?_⟩
  · refine readsAll_of (by rw [List.length_map, hl, hv.length]) fun i d u e1 e2 => ?_
    obtain ⟨x, ex, rfl⟩ := getMap e1
    obtain ⟨w, ew, rw'⟩ := vals_at hv e2
    exact (Rep.fz (S := S) (A := S0) (he i x w ex ew) fun _ z => z).reads h.K I 60 (h1' x (List.mem_of_getElem? ex)) rw'
  · refine ⟨fun d hd d' hd' => ?_, fun d hd => ?_⟩
    · obtain ⟨b, hb, rfl⟩ := List.mem_map.mp hd
      obtain ⟨b', hb', rfl⟩ := List.mem_map.mp hd'
      rw [List.all_eq_true] at h2
      exact List.all_eq_true.mp (h2 _ hb) _ hb'
    · obtain ⟨b, hb, rfl⟩ := List.mem_map.mp hd
      have := List.all_eq_true.mp h0 b hb
      cases b <;> first | (cases this; done) | simp [toP]
  · have := (dpL_plain 60 xs h1).2
    rw [toPL_eq] at this
    have := h.hu
    omega
theorem best_val {pins : List (Addr × Obj)} {σ : St} {H : Hp} {s : Shared} {Z S : AS} {xs : List D} {vs : List V} {its : List Value} {i : Nat} {v : Value} {dB : D} {h' : Heap} {bs : List Addr} (h : XO G X) (I : Inv X pins σ H s) (hv : Vals vs its) (hl : xs.length = vs.length) (he : ∀ (i : Nat) d w, xs[i]? = some d → vs[i]? = some w → RepF G Z H d w) (ho : bestOk xs = true) (hB : dB ∈ xs)
    (hi : its[i]? = some v) (hr : Reads h' v (toP dB) bs) (hk : ∀ b o, s.heap.get? b = some o → h'.get? b = some o) : ∃ w, RelV w v ∧ RepF G Z H dB w := by
  unfold bestOk at ho
  simp only [Bool.and_eq_true] at ho
  obtain ⟨⟨h0, h1⟩, h2⟩ := ho
  rw [dpL_all, List.all_eq_true] at h1
  rw [List.all_eq_true] at h0
  obtain ⟨w, ew, rw'⟩ := vals_at hv hi
  have hlt : i < xs.length := by rw [hl]; exact (List.getElem?_eq_some_iff.mp ew).1
  have ex : xs[i]? = some xs[i] := by simp [hlt]
  have rf := he i xs[i] w ex ew
  have mx : xs[i] ∈ xs := List.getElem_mem hlt
  obtain ⟨as, r⟩ := (Rep.fz (S := S) (A := S0) rf fun _ z => z).reads h.K I 60 (h1 _ mx) rw'
  have r2 := PyProof.Rows.Reads.keeps hk r
  have e : toP xs[i] = toP dB := by
    have key : ∀ d, fl1 d = true → (toP d).canLay0 = true → True := fun _ _ _ => trivial
    exact (Reads.unique r2 _ _ hr).1
  have : xs[i] = dB := fl1_inj (h0 _ mx) (h0 _ hB) e
  rw [this] at rf
  exact ⟨w, rw', rf⟩
theorem ok_max1 (h : XO G X) (hc : X.calm = true) : CallOk G X (.builtin "max") gMax1 := by
  intro pins s σ H xs us Q I rx ⟨Z, S, ds, d, zs, a, e, k⟩
  unfold gMax1 at e
  split at e
  · rename_i m x xs'
    split at e
    · rename_i ho
      rw [Bool.and_eq_true] at ho
      cases e
      obtain ⟨_, A, rfl, r1⟩ := argv1 a
      obtain ⟨p, vs, rfl, sq, hl, _, _, hf⟩ := r1.lstV
      rw [← h.K] at sq
      obtain ⟨its, rv, pl, _⟩ := I.list sq
      match us, rx with
      | [u], .cons r .nil =>
        cases r
        obtain ⟨⟨as, hr⟩, hal, hu⟩ := best_core (S := S) h I rv hl (hf ho.1) ho.2
        refine PySem.W.max_list_data (vs := its.toArray) (x := toP x) (xs := xs'.map toP) (I.ok.hd hc) pl.isList (by simpa using hr) hal (by simpa using hu) fun i v h' tk bs hi hr' hk => ?_
        have em : toP (maxL x xs') = PySem.W.maxD (toP x) (xs'.map toP) := fold_best PySem.W.dataLt ltD (fun _ _ => rfl) xs' x
        rw [← em] at hr'
        obtain ⟨w, rw', rf⟩ := best_val (S := S) h I rv hl (hf ho.1) ho.2 (best_mem ltD xs' x) (by simpa using hi) hr' hk
        exact ⟨w, H, I.kept hk, rw', k.old rf⟩
    · cases e
  · cases e
theorem ok_min1 (h : XO G X) (hc : X.calm = true) : CallOk G X (.builtin "min") gMin1 := by
  intro pins s σ H xs us Q I rx ⟨Z, S, ds, d, zs, a, e, k⟩
  unfold gMin1 at e
  split at e
  · rename_i m x xs'
    split at e
    · rename_i ho
      rw [Bool.and_eq_true] at ho
      cases e
      obtain ⟨_, A, rfl, r1⟩ := argv1 a
      obtain ⟨p, vs, rfl, sq, hl, _, _, hf⟩ := r1.lstV
      rw [← h.K] at sq
      obtain ⟨its, rv, pl, _⟩ := I.list sq
      match us, rx with
      | [u], .cons r .nil =>
        cases r
        obtain ⟨⟨as, hr⟩, hal, hu⟩ := best_core (S := S) h I rv hl (hf ho.1) ho.2
        refine PySem.W.min_list_data (vs := its.toArray) (x := toP x) (xs := xs'.map toP) (I.ok.hd hc) pl.isList (by simpa using hr) hal (by simpa using hu) fun i v h' tk bs hi hr' hk => ?_
        have em : toP (minL x xs') = PySem.W.minD (toP x) (xs'.map toP) := fold_best (fun a y => PySem.W.dataLt y a) (fun a y => ltD y a) (fun _ _ => rfl) xs' x
        rw [← em] at hr'
        obtain ⟨w, rw', rf⟩ := best_val (S := S) h I rv hl (hf ho.1) ho.2 (best_mem (fun a y => ltD y a) xs' x) (by simpa using hi) hr' hk
        exact ⟨w, H, I.kept hk, rw', k.old rf⟩
    · cases e
  · cases e
theorem ltD_i (i j : Int) : ltD (.int i) (.int j) = decide (i < j) := W.dataLt_int i j
theorem maxL_i : ∀ (ns : List Int) (n : Int), maxL (.int n) (ns.map .int) = .int (ns.foldl max n)
  | [], n => rfl
  | j :: r, n => by
    unfold maxL at *
    rw [List.map_cons, List.foldl_cons, List.foldl_cons, ltD_i]
    by_cases h : n < j
    · simp only [h, decide_true, if_true]
      rw [show max n j = j by omega]
      exact maxL_i r j
    · simp only [h, decide_false, Bool.false_eq_true, if_false]
      rw [show max n j = n by omega]
      exact maxL_i r n
theorem minL_i : ∀ (ns : List Int) (n : Int), minL (.int n) (ns.map .int) = .int (ns.foldl min n)
  | [], n => rfl
  | j :: r, n => by
    unfold minL at *
    rw [List.map_cons, List.foldl_cons, List.foldl_cons, ltD_i]
    by_cases h : j < n
    · simp only [h, decide_true, if_true]
      rw [show min n j = j by omega]
      exact minL_i r j
    · simp only [h, decide_false, Bool.false_eq_true, if_false]
      rw [show min n j = n by omega]
      exact minL_i r n
theorem best_i (ns : List Int) : bestOk (ns.map .int) = true := by
  unfold bestOk
  rw [dpL_of (f := D.int) (fun _ => by simp [dp])]
  simp [fl1, toP, W.alike]
theorem v_max1 {m : Fl} (hm : shal m = true) (n : Int) (ns : List Int) : gMax1 [.lst m ((n :: ns).map .int)] = some (.int (ns.foldl max n)) := by
  show (if shal m && bestOk ((n :: ns).map .int) then some (maxL (.int n) (ns.map .int)) else none) = _
  rw [hm, best_i, maxL_i]; rfl
theorem v_min1 {m : Fl} (hm : shal m = true) (n : Int) (ns : List Int) : gMin1 [.lst m ((n :: ns).map .int)] = some (.int (ns.foldl min n)) := by
  show (if shal m && bestOk ((n :: ns).map .int) then some (minL (.int n) (ns.map .int)) else none) = _
  rw [hm, best_i, minL_i]; rfl
end
/-! name.pop(k), a dict, as a statement -/
def evDPopS (i : Nat) (fk : DS → Option ER) : DS → Option ES := fun δ => match δ[i]? with
  | some (some (.dic .o _)) => evDDel i fk δ
  | _ => none
section
variable {G : GC} {W : WX} {n : Nat} {pn : List Nat}
theorem rd_dpopS {q2 vk : Bool} {i : Nat} {fk : DS → Option ER} {ti : TE} (hk : ∀ σ H Q, rdE G W vk q2 fk σ H Q → ti σ H Q) : ∀ D σ H, rdS G W n pn (evDPopS i fk) D σ H → tDrop (tDPop1 (tVar i) ti) D σ H := by
  rintro D σ H ⟨hn, δ, Z, S, FS, sr, r, hr, w⟩
  unfold evDPopS at hr
  split at hr
  · rename_i kvs0 e0
    unfold evDDel at hr
    rw [e0] at hr
    simp only at hr
    obtain ⟨a0, ws0, ev0, ha0, _⟩ := sr.dicO e0
    refine ⟨.ref a0, ev0, a0, rfl, .inl ⟨ws0, .inl ha0⟩, ?_⟩
    refine hk σ H _ ⟨δ, _, S, FS, sr, ?_, fun kd δ2 h2 kv H2 Z2 FS2 A2 p2 => ?_, fun x δ2 h2 c dd H2 Z2 FS2 p2 => ?_⟩
    · cases q : fk δ with
      | none => rw [q] at hr; cases hr
      | some w => exact ⟨w, rfl⟩
    · rw [h2] at hr
      simp only at hr
      split at hr
      · rename_i κ kvs ek e2
        split at hr
        · rename_i hz
          cases hr
          have kv' := keyE p2 ek
          subst kv'
          obtain ⟨a, ws, ev, ha', hl, he, hA⟩ := p2.sr.dicO e2
          rw [ev0] at ev
          cases ev
          have nZ := (p2.sr.nz a0 ⟨i, (hA a0).mpr rfl⟩).1
          have hil : i < δ2.length := (List.getElem?_eq_some_iff.mp e2).1
          have keep : ∀ x, Z2 x → x ≠ a0 := fun x z q => nZ (q ▸ z)
          obtain ⟨m1, m2⟩ := dK_at (k := κ) hl he
          have rp : Rep G Z2 (S i) (upd H2 a0 (.dK (dropK ws κ))) (.dic .o (dK κ kvs)) (.ref a0) (fun x => x = a0) :=
            .dco upd_same m1 (fun l x y e1 e2 => (m2 l x y e1 e2).mono (fun _ z => z) fun b z o e => by rw [upd_ne (keep b z)]; exact e) fun _ => Iff.rfl
          obtain ⟨sr2, st2⟩ := p2.sr.write ev0 ((hA a0).mpr rfl) hil rp fun x q => (hA x).mpr q
          have hv : ∃ v, valV ws κ = some v := by
            rcases lkK_at κ hl with ⟨q1, q2⟩ | ⟨i, d', w, q1, q2, q3, q4⟩
            · rw [q1] at hz; cases hz
            · exact ⟨w, q2⟩
          obtain ⟨v, hv⟩ := hv
          refine ⟨ws, κ, v, ha', rfl, hv, ?_⟩
          exact w.nx _ rfl σ _ _ _ ⟨sr2, (p2.st.sub fun x z => .inl z).trans st2, Pin.refl _ _⟩
        · cases hr
      · cases hr
    · rw [h2] at hr; cases hr
      exact w.ex x _ rfl c dd σ H2 Z2 FS2 p2.q
  · cases hr
end
section
variable {E : En} {G : GC} {p : Pl} {X : Cx} {n : Nat} {pn : List Nat}
theorem s_dpopS {q2 vk : Bool} {i : Nat} {x m : Str} {q a cp pos : Pos} {ek : Expr} {fk : DS → Option ER} (hm : m = Str.ofString "pop") (h : nmOk p i x = true) (hk : JE E G p vk q2 ek fk)
    (hb : ∀ env : Env, attributeBase (.Name x q) m env (eval (.Name x q) env) = eval (.Name x q) env := by exact fun _ => rfl)
    (hf : ∀ env : Env, ((backTo cp (starEach [ek] env)).all (fun x => !x.1) && (backToKw cp (keywordEach [] env)).all (fun x => x.1.isSome) && decide (([ek] : List Expr).length + ([] : List Keyword).length + (if ([] : List Keyword).isEmpty then 0 else 1) < 30)) = true := by exact fun _ => rfl)
    (hl : (a.endLine == cp.line) = true := by rfl) (ht : ∀ env : Env, backTo cp (starEach [ek] env) = [(false, eval ek env)] := by exact fun _ => rfl)
    (h3 : ∀ env : Env, swapsWith (.Call (.Attribute (.Name x q) m a) [ek] [] cp) none pos.line env = pure false := by exact fun _ => rfl) : JS E G p n pn (.Expr (.Call (.Attribute (.Name x q) m a) [ek] [] cp) pos) (evDPopS i fk) := fun X W hA hT _ => by
  subst hm
  exact PS.mono (ps_expr (pos := pos) (pe_dpop1 (at_pe h hA) (hk X W hA hT) ⟨hb _, hf _, hl, ht _⟩) (h3 _)) (rd_dpopS fun _ _ _ h => h)
end
section
variable {QS : Out → DS → Prop} {δ : DS}
theorem g_ddel {i : Nat} {fk : DS → Option ER} : Go (evDDel i fk) δ QS = sl δ i fun _ => GE fk δ (kS (fun kd δ2 => has (keyD kd) fun κ => sl δ2 i fun d1 => has (dcO d1) fun kvs => (lkK κ kvs).isSome = true ∧ QS .nx (st δ2 i (some (.dic .o (dK κ kvs))))) QS) := by
  let h2 : D → DS → Option ES := fun kd δ2 => match keyD kd with
    | some κ => (match δ2[i]? with | some (some (.dic .o kvs)) => if (lkK κ kvs).isSome = true then some (.nx, δ2.set i (some (.dic .o (dK κ kvs)))) else none | _ => none)
    | none => none
  let h1 : DS → Option ES := fun δ' => match fk δ' with
      | none => none
      | some (.ex x, δ2) => some (.ex x, δ2)
      | some (.ok kd, δ2) => h2 kd δ2
  have e0 : evDDel i fk δ = (match δ[i]? with | some (some _) => h1 δ | _ => none) := by
    unfold evDDel
    generalize δ[i]? = o
    rcases o with _ | _ | _
    · rfl
    · rfl
    · dsimp only [h1]
      rcases fk δ with _ | ⟨kd | _, δ2⟩
      · rfl
      · dsimp only [h2]
        cases keyD kd with
        | none => rfl
        | some κ =>
          dsimp only
          generalize δ2[i]? = o
          rcases o with _ | _ | d
          · rfl
          · rfl
          · cases d with
            | dic m kvs => cases m <;> rfl
            | _ => rfl
      · rfl
  unfold Go
  rw [e0]
  refine Eq.trans slAny (congrArg _ (funext fun d0 => ?_))
  refine Eq.trans (bindS (f := fk) (f' := h1) (h := h2) (by show h1 δ = _; dsimp only [h1]; rcases fk δ with _ | ⟨_ | _, _⟩ <;> rfl)) (congrArg _ (kSc fun kd δ2 => ?_))
  refine Eq.trans keyM (congrArg _ (funext fun κ => ?_))
  refine Eq.trans slD (congrArg _ (funext fun d1 => congrArg _ (funext fun kvs => ?_)))
  rw [iteN, ex2, st_eq]
theorem g_dpopS {i : Nat} {fk : DS → Option ER} : Go (evDPopS i fk) δ QS = sl δ i fun d0 => has (dcO d0) fun _ => Go (evDDel i fk) δ QS := by
  have e0 : evDPopS i fk δ = (match δ[i]? with | some (some (.dic .o kvs)) => evDDel i fk δ | _ => none) := rfl
  unfold Go
  rw [e0]
  exact slD (g := fun _ => evDDel i fk δ)
end

/-! ### a table of numbers, as a dict -/
section
variable {α : Type}
def lkI (n : Int) (S : List (Int × α)) : Option α := (S.find? fun p => decide (p.1 = n)).map (·.2)
def putI (n : Int) (a : α) (S : List (Int × α)) : List (Int × α) := if (S.any fun p => decide (p.1 = n)) = true then S.map (fun p => if p.1 = n then (p.1, a) else p) else S ++ [(n, a)]
def delI (n : Int) (S : List (Int × α)) : List (Int × α) := S.filter fun p => decide (p.1 ≠ n)
def tblI (f : α → D) (S : List (Int × α)) : List (Key × D) := S.map fun p => (.inl p.1, f p.2)
variable {f : α → D} {S : List (Int × α)} {n : Int} {a : α}
theorem inl_eq {x y : Int} : decide ((Sum.inl x : Key) = Sum.inl y) = decide (x = y) := by
  by_cases h : x = y
  · subst h; simp
  · simp [h]
theorem lk_tblI (f : α → D) (S : List (Int × α)) (n : Int) : lkK (.inl n) (tblI f S) = (lkI n S).map f := by
  unfold lkK tblI lkI
  rw [List.find?_map, Option.map_map, Option.map_map]
  have : ((fun kv : Key × D => decide (kv.1 = .inl n)) ∘ fun p : Int × α => (Sum.inl p.1, f p.2)) = fun p => decide (p.1 = n) := by
    funext p
    exact inl_eq
  rw [this]
  rfl
theorem pK_tblI (f : α → D) (S : List (Int × α)) (n : Int) (a : α) : pK (.inl n) (f a) (tblI f S) = tblI f (putI n a S) := by
  unfold pK tblI putI
  have e1 : ((S.map fun p => ((.inl p.1 : Key), f p.2)).any fun kv => decide (kv.1 = .inl n)) = S.any fun p => decide (p.1 = n) := by
    rw [List.any_map]
    congr 1
    funext p
    exact inl_eq
  rw [e1]
  by_cases h : (S.any fun p => decide (p.1 = n)) = true
  · rw [if_pos h, if_pos h, List.map_map, List.map_map]
    refine List.map_congr_left fun p _ => ?_
    simp only [Function.comp]
    by_cases q : p.1 = n
    · simp [q]
    · have : ¬ (Sum.inl p.1 : Key) = Sum.inl n := fun z => q (by cases z; rfl)
      rw [if_neg this, if_neg q]
  · rw [if_neg h, if_neg h, List.map_append]; rfl
theorem dK_tblI (f : α → D) (S : List (Int × α)) (n : Int) : dK (.inl n) (tblI f S) = tblI f (delI n S) := by
  unfold dK tblI delI
  rw [List.filter_map]
  congr 1
  refine List.filter_congr fun p _ => ?_
  simp only [Function.comp]
  by_cases q : p.1 = n
  · simp [q]
  · have : ¬ (Sum.inl p.1 : Key) = Sum.inl n := fun z => q (by cases z; rfl)
    simp [q, this]
theorem keys_tblI (f : α → D) (S : List (Int × α)) : keysD (tblI f S) = (S.map (·.1)).map .int := by
  unfold keysD tblI
  rw [List.map_map, List.map_map]; rfl
theorem len_tblI (f : α → D) (S : List (Int × α)) : (tblI f S).length = S.length := List.length_map _
theorem lkI_none : lkI n S = none ↔ n ∉ S.map (·.1) := by
  unfold lkI
  rw [Option.map_eq_none_iff, List.find?_eq_none]
  constructor
  · intro h q
    obtain ⟨p, hp, e⟩ := List.mem_map.mp q
    exact h p hp (by simpa using e)
  · intro h p hp q
    exact h (List.mem_map.mpr ⟨p, hp, by simpa using q⟩)
theorem lkI_some (h : lkI n S = some a) : (n, a) ∈ S := by
  unfold lkI at h
  obtain ⟨p, hp, rfl⟩ := Option.map_eq_some_iff.mp h
  have e : p.1 = n := by simpa using List.find?_some hp
  have := List.mem_of_find?_eq_some hp
  subst e
  exact this
theorem sortOk_i (xs : List Int) (hl : xs.length ≤ 1000000) : sortOk (xs.map .int) = true := by
  unfold sortOk
  rw [dpL_of (f := D.int) (fun _ => by simp [dp])]
  have h1 : ((xs.map D.int).all fun a => (xs.map D.int).all fun b => W.alike (toP a) (toP b)) = true := by simp [toP, W.alike]
  have h2 : ((xs.map D.int).all fun a => noTup (toP a)) = true := by simp [toP, noTup]
  rw [h1, h2, List.length_map, Bool.or_true]
  simpa using hl
def leNum (a b : Int) : Bool := leD (.int a) (.int b)
theorem leNum_eq (a b : Int) : leNum a b = decide (a ≤ b) := by
  unfold leNum leD
  have := congrFun (congrFun (W.dataLe_int (fun x : Int => x)) a) b
  exact this
theorem v_sortedI {m : Fl} (hl : S.length ≤ 1000000) : gSortedU [.dic m (tblI f S)] = some (.lst .o (((S.map (·.1)).mergeSort leNum).map .int)) := by
  show (if sortOk (keysD (tblI f S)) then some (D.lst .o ((keysD (tblI f S)).mergeSort leD)) else none) = _
  rw [keys_tblI, sortOk_i _ (by simpa using hl), if_pos rfl, List.map_mergeSort (r := leNum) (s := leD) (f := D.int) fun a _ b _ => rfl]
theorem v_itemIb {m : Fl} (h : lkI n S = some a) (hf : isF (f a) = true) : gItemU [.dic m (tblI f S), .int n] = some (f a) := v_itemK rfl (by rw [lk_tblI, h]; rfl) hf
end
end PD
/-! P, part 51: [e for k in d if c], d a name's dict. -/
namespace PD
open PySem L2

section
variable {G : GC} {Z S : AS} {H : Hp} {x : Addr} {ws : List (Key × V)} {od : Obj}
theorem RepF.lock (hd : H x = some (.dK ws)) {d : D} {v : V} (r : RepF G Z H d v) : RepF G Z (upd H x (.frz od (.dK ws))) d v := by
  have ne : ∀ {a : Addr} {o : HO}, H a = some o → o ≠ .dK ws → a ≠ x := fun h hn e => by subst e; rw [hd] at h; exact hn (Option.some.inj h).symm
  induction r with
  | non => exact .non
  | bl b => exact .bl b
  | int i => exact .int i
  | str s => exact .str s
  | tup h hl he ih =>
    refine .tup (h.imp (fun ⟨z, q⟩ => ⟨z, ?_⟩) id) hl ih
    rcases q with q | ⟨o, q⟩
    · exact .inl (by rw [upd_ne (ne q (by simp))]; exact q)
    · exact .inr ⟨o, by rw [upd_ne (ne q (by simp))]; exact q⟩
  | lsk h hl he ih =>
    refine .lsk (h.imp (fun ⟨z, q⟩ => ⟨z, ?_⟩) id) hl ih
    rcases q with q | ⟨o, q⟩
    · exact .inl (by rw [upd_ne (ne q (by simp))]; exact q)
    · exact .inr ⟨o, by rw [upd_ne (ne q (by simp))]; exact q⟩
  | lst z h hl he ih => exact .lst z (by rw [upd_ne (ne h (by simp))]; exact h) hl ih
  | @dic a kvs ws2 z h hl he ih =>
    refine .dic (ws := ws2) z ?_ hl ih
    rcases h with q | ⟨o, q⟩
    · by_cases e : a = x
      · subst e
        rw [hd] at q
        cases q
        exact .inr ⟨od, upd_same⟩
      · exact .inl (by rw [upd_ne e]; exact q)
    · exact .inr ⟨o, by rw [upd_ne (ne q (by simp))]; exact q⟩
  | dit z h hl he ih => exact .dit z (by rw [upd_ne (ne h (by simp))]; exact h) hl ih
  | ins z h hl he ih => exact .ins z (by rw [upd_ne (ne h (by simp))]; exact h) hl ih
theorem RepF.unlock (hd : H x = some (.frz od (.dK ws))) {d : D} {v : V} (r : RepF G Z H d v) : RepF G Z (upd H x (.dK ws)) d v := by
  have ne : ∀ {a : Addr} {o : HO}, H a = some o → o ≠ .frz od (.dK ws) → a ≠ x := fun h hn e => by subst e; rw [hd] at h; exact hn (Option.some.inj h).symm
  induction r with
  | non => exact .non
  | bl b => exact .bl b
  | int i => exact .int i
  | str s => exact .str s
  | tup h hl he ih =>
    refine .tup (h.imp (fun ⟨z, q⟩ => ⟨z, ?_⟩) id) hl ih
    rcases q with q | ⟨o, q⟩
    · exact .inl (by rw [upd_ne (ne q (by simp))]; exact q)
    · exact .inr ⟨o, by rw [upd_ne (ne q (by simp))]; exact q⟩
  | lsk h hl he ih =>
    refine .lsk (h.imp (fun ⟨z, q⟩ => ⟨z, ?_⟩) id) hl ih
    rcases q with q | ⟨o, q⟩
    · exact .inl (by rw [upd_ne (ne q (by simp))]; exact q)
    · exact .inr ⟨o, by rw [upd_ne (ne q (by simp))]; exact q⟩
  | lst z h hl he ih => exact .lst z (by rw [upd_ne (ne h (by simp))]; exact h) hl ih
  | @dic a kvs ws2 z h hl he ih =>
    refine .dic (ws := ws2) z ?_ hl ih
    rcases h with q | ⟨o, q⟩
    · exact .inl (by rw [upd_ne (ne q (by simp))]; exact q)
    · by_cases e : a = x
      · subst e
        rw [hd] at q
        cases q
        exact .inl upd_same
      · exact .inr ⟨o, by rw [upd_ne e]; exact q⟩
  | dit z h hl he ih => exact .dit z (by rw [upd_ne (ne h (by simp))]; exact h) hl ih
  | ins z h hl he ih => exact .ins z (by rw [upd_ne (ne h (by simp))]; exact h) hl ih
theorem Rd.lockD (hd : H x = some (.dK ws)) {a : Addr} {ws2 : List (Key × V)} (h : Rd H a (.dK ws2)) : Rd (upd H x (.frz od (.dK ws))) a (.dK ws2) := by
  rcases h with q | ⟨o, q⟩
  · by_cases e : a = x
    · subst e
      rw [hd] at q
      cases q
      exact .inr ⟨od, upd_same⟩
    · exact .inl (by rw [upd_ne e]; exact q)
  · exact .inr ⟨o, by rw [upd_ne (fun e => by subst e; rw [hd] at q; cases q)]; exact q⟩
theorem Rd.unlockD (hd : H x = some (.frz od (.dK ws))) {a : Addr} {ws2 : List (Key × V)} (h : Rd H a (.dK ws2)) : Rd (upd H x (.dK ws)) a (.dK ws2) := by
  rcases h with q | ⟨o, q⟩
  · exact .inl (by rw [upd_ne (fun e => by subst e; rw [hd] at q; cases q)]; exact q)
  · by_cases e : a = x
    · subst e
      rw [hd] at q
      cases q
      exact .inl upd_same
    · exact .inr ⟨o, by rw [upd_ne e]; exact q⟩
theorem Rep.lock (hd : H x = some (.dK ws)) {d : D} {v : V} {A : AS} (r : Rep G Z S H d v A) : ¬ A x → Rep G Z S (upd H x (.frz od (.dK ws))) d v A := by
  have ne : ∀ {a : Addr} {o : HO}, H a = some o → o ≠ .dK ws → a ≠ x := fun h hn e => by subst e; rw [hd] at h; exact hn (Option.some.inj h).symm
  induction r with
  | fz h hA => exact fun _ => .fz (h.lock hd) hA
  | lo h hl he hA => exact fun _ => .lo (by rw [upd_ne (ne h (by simp))]; exact h) hl (fun i d v e1 e2 => (he i d v e1 e2).lock hd) hA
  | loo B h hl he hd' hn ho hA ih => exact fun nx => .loo B (by rw [upd_ne (ne h (by simp))]; exact h) hl (fun i d v e1 e2 => ih i d v e1 e2 fun q => nx ((hA _).mpr (.inr ⟨i, q⟩))) hd' hn ho hA
  | ll s h hl he hA => exact fun _ => .ll s (by rw [upd_ne (ne h (by simp))]; exact h) hl (fun i d v e1 e2 => (he i d v e1 e2).lock hd) hA
  | lll s h hl he hA ih => exact fun _ => .lll s (by rw [upd_ne (ne h (by simp))]; exact h) hl (fun i d v e1 e2 => ih i d v e1 e2 fun q => q) hA
  | dco h hl he hA => exact fun nx => .dco (by rw [upd_ne (fun e => nx ((hA _).mpr e.symm))]; exact h) hl (fun i d v e1 e2 => (he i d v e1 e2).lock hd) hA
  | dcoo B h hl he hd' hn ho hA ih => exact fun nx => .dcoo B (by rw [upd_ne (fun e => nx ((hA _).mpr (.inl e.symm)))]; exact h) hl (fun i d v e1 e2 => ih i d v e1 e2 fun q => nx ((hA _).mpr (.inr ⟨i, q⟩))) hd' hn ho hA
  | dcl s h hl he hA => exact fun _ => .dcl s (Rd.lockD hd h) hl (fun i d v e1 e2 => (he i d v e1 e2).lock hd) hA
  | dcll s h hl he hA ih => exact fun _ => .dcll s (Rd.lockD hd h) hl (fun i d v e1 e2 => ih i d v e1 e2 fun q => q) hA
  | dto h hl he hA => exact fun _ => .dto (by rw [upd_ne (ne h (by simp))]; exact h) hl (fun i d v e1 e2 => (he i d v e1 e2).lock hd) hA
  | dtl s h hl he hA => exact fun _ => .dtl s (by rw [upd_ne (ne h (by simp))]; exact h) hl (fun i d v e1 e2 => (he i d v e1 e2).lock hd) hA
  | ioo B h hl he hd' hn ho hA ih => exact fun nx => .ioo B (by rw [upd_ne (ne h (by simp))]; exact h) hl (fun i d v e1 e2 => ih i d v e1 e2 fun q => nx ((hA _).mpr (.inr ⟨i, q⟩))) hd' hn ho hA
  | ill s h hl he hA ih => exact fun _ => .ill s (by rw [upd_ne (ne h (by simp))]; exact h) hl (fun i d v e1 e2 => ih i d v e1 e2 fun q => q) hA
theorem Rep.unlock (hd : H x = some (.frz od (.dK ws))) {d : D} {v : V} {A : AS} (r : Rep G Z S H d v A) : Rep G Z S (upd H x (.dK ws)) d v A := by
  have ne : ∀ {a : Addr} {o : HO}, H a = some o → o ≠ .frz od (.dK ws) → a ≠ x := fun h hn e => by subst e; rw [hd] at h; exact hn (Option.some.inj h).symm
  induction r with
  | fz h hA => exact .fz (h.unlock hd) hA
  | lo h hl he hA => exact .lo (by rw [upd_ne (ne h (by simp))]; exact h) hl (fun i d v e1 e2 => (he i d v e1 e2).unlock hd) hA
  | loo B h hl he hd' hn ho hA ih => exact .loo B (by rw [upd_ne (ne h (by simp))]; exact h) hl ih hd' hn ho hA
  | ll s h hl he hA => exact .ll s (by rw [upd_ne (ne h (by simp))]; exact h) hl (fun i d v e1 e2 => (he i d v e1 e2).unlock hd) hA
  | lll s h hl he hA ih => exact .lll s (by rw [upd_ne (ne h (by simp))]; exact h) hl ih hA
  | dco h hl he hA => exact .dco (by rw [upd_ne (ne h (by simp))]; exact h) hl (fun i d v e1 e2 => (he i d v e1 e2).unlock hd) hA
  | dcoo B h hl he hd' hn ho hA ih => exact .dcoo B (by rw [upd_ne (ne h (by simp))]; exact h) hl ih hd' hn ho hA
  | dcl s h hl he hA => exact .dcl s (Rd.unlockD hd h) hl (fun i d v e1 e2 => (he i d v e1 e2).unlock hd) hA
  | dcll s h hl he hA ih => exact .dcll s (Rd.unlockD hd h) hl ih hA
  | dto h hl he hA => exact .dto (by rw [upd_ne (ne h (by simp))]; exact h) hl (fun i d v e1 e2 => (he i d v e1 e2).unlock hd) hA
  | dtl s h hl he hA => exact .dtl s (by rw [upd_ne (ne h (by simp))]; exact h) hl (fun i d v e1 e2 => (he i d v e1 e2).unlock hd) hA
  | ioo B h hl he hd' hn ho hA ih => exact .ioo B (by rw [upd_ne (ne h (by simp))]; exact h) hl ih hd' hn ho hA
  | ill s h hl he hA ih => exact .ill s (by rw [upd_ne (ne h (by simp))]; exact h) hl ih hA
theorem there_upd {o : HO} : (∃ u, H x = some u) → ∀ a, (∃ u, H a = some u) → ∃ u, upd H x o a = some u := fun _ a ⟨u, e⟩ => by
  by_cases h : a = x
  · rw [h]; exact ⟨_, upd_same⟩
  · rw [upd_ne h]; exact ⟨_, e⟩
end
section
variable {G : GC} {Z : AS} {S : Nat → AS} {H : Hp} {x : Addr} {ws : List (Key × V)} {od : Obj} {δ : DS} {σ : St} {FS : Nat → AS}
theorem SR.lock (r : SR G Z S H δ σ FS) (hd : H x = some (.dK ws)) (hx : ¬ Own FS x) : SR G Z S (upd H x (.frz od (.dK ws))) δ σ FS :=
  ⟨r.len, fun i d e => let ⟨v, e1, rp⟩ := r.slot i d e; ⟨v, e1, rp.lock hd fun q => hx ⟨i, q⟩⟩, r.empt, r.disj, fun a z => there_upd ⟨_, hd⟩ a (r.zs a z), fun a z => there_upd ⟨_, hd⟩ a (r.ss a z), r.nz⟩
theorem SR.unlock (r : SR G Z S H δ σ FS) (hd : H x = some (.frz od (.dK ws))) : SR G Z S (upd H x (.dK ws)) δ σ FS :=
  ⟨r.len, fun i d e => let ⟨v, e1, rp⟩ := r.slot i d e; ⟨v, e1, rp.unlock hd⟩, r.empt, r.disj, fun a z => there_upd ⟨_, hd⟩ a (r.zs a z), fun a z => there_upd ⟨_, hd⟩ a (r.ss a z), r.nz⟩
end

/-- the keys of name i's dict; the dict is lent meanwhile -/
def evKeys (i : Nat) : DS → Option EI := fun δ => match δ[i]? with
  | some (some d) => match d with
    | .dic m kvs => if m = .o ∨ m = .l ∨ m = .f then some (.ok (.lent i d (keysD kvs)), δ.set i (some (lend d))) else none
    | _ => none
  | _ => none
/-- .. where it is lent or frozen -/
def evKeysA (i : Nat) : DS → Option EI := fun δ => match δ[i]? with
  | some (some d) => match d with
    | .dic m kvs => if m = .l ∨ m = .f then some (.ok (.all (keysD kvs)), δ) else none
    | _ => none
  | _ => none
section
variable {G : GC} {W : WX} {n : Nat} {pn : List Nat}
theorem evLcA {i : Nat} {m : Fl} {kvs : List (Key × D)} {tg : D → DS → Option DS} {t : DS → Option EB} {f : DS → Option ER} {vs : List Nat} {δ : DS} (e : δ[i]? = some (some (.dic m kvs))) (hs : m = .o ∨ m = .l ∨ m = .f) :
    evLc (evKeys i) tg t f vs δ = (match evLc (evKeysA i) tg t f vs (δ.set i (some (lend (.dic m kvs)))) with
      | some (r, δ2) => some (r, δ2.set i (some (.dic m kvs)))
      | none => none) ∧ ∀ x δ', evLc (evKeysA i) tg t f vs (δ.set i (some (lend (.dic m kvs)))) ≠ some (.ex x, δ') := by
  have hil : i < δ.length := (List.getElem?_eq_some_iff.mp e).1
  have e1 : evKeys i δ = some (.ok (.lent i (.dic m kvs) (keysD kvs)), δ.set i (some (lend (.dic m kvs)))) := by
    unfold evKeys
    rw [e]
    simp only
    rw [if_pos hs]
  have e2 : evKeysA i (δ.set i (some (lend (.dic m kvs)))) = some (.ok (.all (keysD kvs)), δ.set i (some (lend (.dic m kvs)))) := by
    unfold evKeysA
    rw [List.getElem?_set_self hil]
    rcases hs with rfl | rfl | rfl <;> rfl
  unfold evLc
  rw [e1, e2]
  simp only [srItems]
  cases evCmp tg t f vs (keysD kvs) [] (wipeD vs (δ.set i (some (lend (.dic m kvs))))) with
  | none => exact ⟨rfl, fun x δ' h => by cases h⟩
  | some q => exact ⟨rfl, fun x δ' h => by cases h⟩
/-- what a locked dict gives, key by key -/
theorem src_keys {Z T : AS} {H : Hp} {x : Addr} {ws : List (Key × V)} {od : Obj} {kvs : List (Key × D)} (hd : H x = some (.frz od (.dK ws))) (hz : Z x ∨ T x) (hl : kvs.map (·.1) = ws.map (·.1)) : Src G (Itk x od ws) (keysD kvs) Z T H := by
  have len : (keysD kvs).length = ws.length := by unfold keysD; rw [List.length_map]; simpa using congrArg List.length hl
  refine ⟨fun Z' H' i z k hi => ⟨k x hz _ hd, by omega⟩, fun Z' H' z k => ⟨k x hz _ hd, by omega⟩, fun Z' H' i v H2 z k y => ⟨y.1, fun d e => ?_⟩⟩
  obtain ⟨_, k0, v0, e0, rfl⟩ := y
  unfold keysD at e
  obtain ⟨p, ep, rfl⟩ := getMap e
  have : p.1 = k0 := by
    have e1 : (kvs.map (·.1))[i]? = some p.1 := by rw [List.getElem?_map, ep]; rfl
    have e2 : (ws.map (·.1))[i]? = some k0 := by rw [List.getElem?_map, e0]; rfl
    rw [hl, e2] at e1
    exact (Option.some.inj e1).symm
  rw [this]
  exact repF_kD k0
theorem rd_keysA {q1 : Bool} {i : Nat} {x : Addr} {ws : List (Key × V)} {od : Obj} : ∀ σ H R, rdI G W q1 (evKeysA i) σ H R → (H x = some (.frz od (.dK ws)) ∧ σ[i]? = some (some (.ref x))) → iKeys (tVar i) σ H R := by
  rintro σ H R ⟨δ, Z, S, FS, sr, ⟨w, hf⟩, ok, -⟩ ⟨hd, hs⟩
  unfold evKeysA at hf ok
  split at hf
  · rename_i d e
    rw [e] at ok
    simp only at ok
    obtain ⟨v, ev, rp⟩ := sr.slot i d e
    rw [hs] at ev
    cases ev
    refine ⟨.ref x, hs, x, od, rfl, .inl ⟨ws, hd, ?_⟩⟩
    split at hf
    · rename_i m kvs
      split at hf
      · rename_i hm
        simp only [if_pos hm] at ok
        have go : (S i x ∨ Z x) → kvs.map (·.1) = ws.map (·.1) → R (Itk x od ws) H := fun hz hl => by
          refine ok (.all (keysD kvs)) δ rfl _ H Z FS ⟨δ, FS, fun a => a = x ∧ S i x, ⟨sr, Step.refl _ _ _, fun _ => ⟨rfl, fun _ _ e => e⟩⟩, src_keys hd (hz.elim (fun q => .inr ⟨rfl, q⟩) .inl) hl, fun a z => ?_, sr, rfl, rfl⟩
          obtain ⟨rfl, q⟩ := z
          exact ⟨⟨_, hd⟩, fun q2 => (sr.nz a q2).2 ⟨i, q⟩⟩
        have same : ∀ ws2, Rd H x (.dK ws2) → ws2 = ws := fun ws2 q => by
          rcases q with q | ⟨o, q⟩ <;> rw [hd] at q <;> cases q
          rfl
        cases rp with
        | fz h hA =>
          cases h with
          | dic z h hl he => exact go (.inr z) (by rw [hl, same _ h])
        | dcl s h hl he hA => exact go (.inl s) (by rw [hl, same _ h])
        | dco h hl he hA => rcases hm with hm | hm <;> cases hm
        | dcoo B h hl he hd' hn ho hA => rcases hm with hm | hm <;> cases hm
        | dcll s h hl he hA => rcases hm with hm | hm <;> cases hm
      · cases hf
    · cases hf
  · cases hf
theorem rd_lcK {i : Nat} {q2 q3 : Bool} {tg : D → DS → Option DS} {t : DS → Option EB} {f : DS → Option ER} {vs : List Nat} {g : TG} {tt : TT} {te : TE} (hiv : i ∉ vs) (htg : TgOk G n (outside n vs) tg g)
    (ht : ∀ σ H Q, rdT G W0 q2 t σ H Q → tt σ H Q) (hf : ∀ σ H Q, rdE G W0 false q3 f σ H Q → te σ H Q) :
    ∀ σ H Q, σ.length = n → rdE G W false false (evLc (evKeys i) tg t f vs) σ H Q → tLockE (tLc (iKeys (tVar i)) g tt te vs) σ H Q ∨ tLc (iKeys (tVar i)) g tt te vs σ H Q := by
  rintro σ H Q hn ⟨δ, Z, S, FS, sr, ⟨w, hev⟩, ok, ex⟩
  have hev0 := hev
  unfold evLc evKeys at hev
  cases e : δ[i]? with
  | none => rw [e] at hev; cases hev
  | some q =>
    cases q with
    | none => rw [e] at hev; cases hev
    | some d =>
      cases d with
      | dic m kvs =>
        rw [e] at hev
        simp only at hev
        by_cases hm : m = .o ∨ m = .l ∨ m = .f
        · obtain ⟨eE, eX⟩ := evLcA (tg := tg) (t := t) (f := f) (vs := vs) e hm
          obtain ⟨v, ev, rp⟩ := sr.slot i _ e
          obtain ⟨x, ws, rfl, hd, hl, _⟩ := rp.dicV
          have sl := sr.lend e
          have hil : i < δ.length := (List.getElem?_eq_some_iff.mp e).1
          -- nobody's own, once it is lent
          have nx : ¬ Own (fun j y => j ≠ i ∧ FS j y) x := by
            rintro ⟨j, hj, q⟩
            cases rp with
            | fz h hA =>
              cases h with
              | dic z h hl he => exact (sr.nz x ⟨j, q⟩).1 z
            | dco h hl he hA => exact hj (sr.disj j i x q ((hA x).mpr rfl))
            | dcoo B h hl he hd' hn ho hA => exact hj (sr.disj j i x q ((hA x).mpr (.inl rfl)))
            | dcl s h hl he hA => exact (sr.nz x ⟨j, q⟩).2 ⟨i, s⟩
            | dcll s h hl he hA => exact (sr.nz x ⟨j, q⟩).2 ⟨i, s⟩
          have ei : ∀ δ2, evLc (evKeysA i) tg t f vs (δ.set i (some (lend (.dic m kvs)))) = some δ2 → True := fun _ _ => trivial
          cases eA : evLc (evKeysA i) tg t f vs (δ.set i (some (lend (.dic m kvs)))) with
          | none => rw [eA] at eE; rw [eE] at hev0; cases hev0
          | some r =>
            obtain ⟨r, δ2⟩ := r
            rw [eA] at eE
            simp only at eE
            cases r with
            | ex x => exact absurd eA (eX x δ2)
            | ok dr =>
              -- the walk at a heap in which the dict is locked
              have core : ∀ (od : Obj) (HL : Hp) (QL : VK), HL x = some (.frz od (.dK ws)) → SR G Z (fun j y => S j y ∨ (j = i ∧ FS i y)) HL (δ.set i (some (lend (.dic m kvs)))) σ (fun j y => j ≠ i ∧ FS j y) →
                  (∀ v H' Z' FS' A, PostE G (fun j y => S j y ∨ (j = i ∧ FS i y)) false false σ HL Z (fun j y => j ≠ i ∧ FS j y) dr δ2 v H' Z' FS' A → QL v H') → tLc (iKeys (tVar i)) g tt te vs σ HL QL := fun od HL QL hL srL hQ => by
                have h1 := rd_lc (W := W) (fs := evKeysA i) (q1 := true) (wi := fun σ H R => (H x = some (.frz od (.dK ws)) ∧ σ[i]? = some (some (.ref x))) → iKeys (tVar i) σ H R) rd_keysA htg ht hf (fun δ j d xs δ' h => by
                  unfold evKeysA at h
                  split at h
                  · split at h
                    · split at h <;> cases h
                    · cases h
                  · cases h) σ HL QL hn ⟨δ.set i (some (lend (.dic m kvs))), Z, _, _, srL, ⟨_, eA⟩, fun d' δ' e' => by rw [eA] at e'; cases e'; exact hQ, fun x δ' e' => absurd e' (eX x δ')⟩
                exact h1 ⟨hL, ev⟩
              have back : ∀ {HU H' : Hp} {Z' : AS} {FS' : Nat → AS} {A : AS} {v : V}, SR G Z' (fun j y => S j y ∨ (j = i ∧ FS i y)) HU δ2 σ FS' → Step H Z (Own fun j y => j ≠ i ∧ FS j y) HU Z' (fun y => Own FS' y ∨ A y) → Rep G Z' S0 HU dr v A → (∀ y, A y → ¬ Z' y ∧ ¬ Own (fun j y => S j y ∨ (j = i ∧ FS i y)) y ∧ ¬ Own FS' y) → Q v HU := fun {HU H' Z' FS' A v} a b c dA => by
                obtain ⟨s1, s2⟩ := sr.unlend e a (b.sub fun _ z => .inl z) rfl
                refine ok dr _ eE v HU Z' _ A ⟨s1, ?_, ?_, fun z => Bool.noConfusion z⟩
                · refine { s2 with pnew := fun y z => ?_ }
                  rcases z with z | z
                  · exact s2.pnew y z
                  · rcases b.pnew y (.inr z) with ⟨j, _, q⟩ | q
                    · exact .inl ⟨j, q⟩
                    · exact .inr q
                · rw [if_neg Bool.false_ne_true]
                  refine ⟨c, fun y z => ⟨(dA y z).1, fun ⟨j, q⟩ => (dA y z).2.1 ⟨j, .inl q⟩, fun ⟨j, q⟩ => ?_⟩⟩
                  rcases q with ⟨_, q⟩ | ⟨_, q⟩
                  · exact (dA y z).2.1 ⟨i, .inr ⟨rfl, q⟩⟩
                  · exact (dA y z).2.2 ⟨j, q⟩
              rcases hd with hd | ⟨od, hd⟩
              · refine .inl ⟨x, .dK ws, hd, trivial, fun od => ?_⟩
                refine core od _ _ upd_same (sl.lock hd nx) fun v H' Z' FS' A p => ?_
                have hx : H' x = some (.frz od (.dK ws)) := p.st.keep x _ upd_same nx
                refine ⟨hx, ?_⟩
                have vl := p.vl
                rw [if_neg Bool.false_ne_true] at vl
                refine back (H' := H') (p.sr.unlock hx) ?_ (vl.1.unlock hx) vl.2
                refine ⟨fun a o ea nP => ?_, fun a o ea => ?_, p.st.zin, fun a z => ?_, fun a z => ?_⟩
                · by_cases h : a = x
                  · subst h
                    rw [hd] at ea
                    cases ea
                    exact upd_same
                  · rw [upd_ne h]
                    exact p.st.keep a o (by rw [upd_ne h]; exact ea) nP
                · refine there_upd ⟨_, hx⟩ a ?_
                  by_cases h : a = x
                  · subst h; exact ⟨_, hx⟩
                  · exact p.st.there a o (by rw [upd_ne h]; exact ea)
                · rcases p.st.znew a z with q | q | q
                  · exact .inl q
                  · exact .inr (.inl q)
                  · by_cases h : a = x
                    · subst h; rw [upd_same] at q; cases q
                    · rw [upd_ne h] at q; exact .inr (.inr q)
                · rcases p.st.pnew a z with q | q
                  · exact .inl q
                  · by_cases h : a = x
                    · subst h; rw [upd_same] at q; cases q
                    · rw [upd_ne h] at q; exact .inr q
              · refine .inr (core od H Q hd sl fun v H' Z' FS' A p => ?_)
                have vl := p.vl
                rw [if_neg Bool.false_ne_true] at vl
                exact back (H' := H') p.sr p.st vl.1 vl.2
        · rw [if_neg hm] at hev; cases hev
      | _ => rw [e] at hev; cases hev
end
section
variable {E : En} {G : GC} {p : Pl} {X : Cx}
theorem j_lcD {i : Nat} {x : Str} {q pos : Pos} {own : List (Str × Nat)} {elt tg : Expr} {ifs : List Expr} {scope : Scope} {tgf : D → DS → Option DS} {t : DS → Option EB} {fe : DS → Option ER} {q2 q3 : Bool} (hx : nmOk p i x = true)
    (nd : p.N.Nodup) (hb : blkC p.N p.sc scope own = true) (hiv : i ∉ own.map (·.2)) (htg : JTg E G (p.blk scope) p.N.length (outside p.N.length (own.map (·.2))) tg tgf) (ht : JTs E G (p.blk scope) q2 ifs t) (he : JE E G (p.blk scope) false q3 elt fe) (hh : p.hot = false := by rfl) (hit : ∀ env v, foldedSetIterable (.Name x q) env v = pure v := by exact fun _ _ => rfl) :
    JE E G p false false (.ListComp elt [⟨tg, .Name x q, ifs, 0⟩] scope pos) (evLc (evKeys i) tgf t fe (own.map (·.2))) := fun X W hA hT => by
  obtain ⟨g, hg1, hg2⟩ := htg
  have P := pe_lc (pos := pos) (own := own) (hA.calm hh) (by rw [hA.N]; exact nd) (pi_keys (tg := tg) (at_pe (pos := q) hx hA)) (by rw [hA.N, hA.sc]; exact blkOk_by hb) (fun s H C cl fp => hg2 _ (hA.blk s H scope C cl fp)) (fun s H C cl fp => ht _ W0 (hA.blk s H scope C cl fp) takes_w0) (fun s H C cl fp => he _ W0 (hA.blk s H scope C cl fp) takes_w0) (hit _)
  have P2 := pe_lock P
  have PO : PE X (.ListComp elt [⟨tg, .Name x q, ifs, 0⟩] scope pos) (fun σ H Q => tLockE (tLc (iKeys (tVar i)) g (rdT G W0 q2 t) (rdE G W0 false q3 fe) (own.map (·.2))) σ H Q ∨ tLc (iKeys (tVar i)) g (rdT G W0 q2 t) (rdE G W0 false q3 fe) (own.map (·.2)) σ H Q) :=
    ⟨fun pins s σ H Q I h => h.elim (P2.run pins s σ H Q I) (P.run pins s σ H Q I)⟩
  exact PE.monoL PO fun σ H Q hl h => rd_lcK hiv hg1 (fun _ _ _ h => h) (fun _ _ _ h => h) σ H Q (by rw [hl, hA.N]) h
end
section
variable {QI : RR Sr → DS → Prop} {δ : DS}
def dcS : D → Option (List (Key × D))
  | .dic m kvs => if m = .o ∨ m = .l ∨ m = .f then some kvs else none
  | _ => none
theorem e_keys {i : Nat} : GE (evKeys i) δ QI = sl δ i fun d => has (dcS d) fun kvs => QI (.ok (.lent i d (keysD kvs))) (st δ i (some (lend d))) := by
  unfold GE sl evKeys
  cases e : δ[i]? with
  | none => exact Eq.trans ex2n (propext ⟨False.elim, fun ⟨_, e, _⟩ => (by cases e)⟩)
  | some u =>
    cases u with
    | none => exact Eq.trans ex2n (propext ⟨False.elim, fun ⟨_, e, _⟩ => (by cases e)⟩)
    | some d =>
      refine Eq.trans ?_ (show has (dcS d) _ = _ from propext ⟨fun h => ⟨d, rfl, h⟩, fun ⟨_, e, h⟩ => (by cases e; exact h)⟩)
      cases d with
      | dic m kvs =>
        simp only [dcS]
        by_cases h : m = .o ∨ m = .l ∨ m = .f
        · rw [if_pos h, if_pos h, has_some, ← st_eq]; exact ex2
        · rw [if_neg h, if_neg h, has_none]; exact ex2n
      | _ => rw [show dcS _ = none from rfl, has_none]; exact ex2n
theorem dcS_o {kvs : List (Key × D)} : dcS (.dic .o kvs) = some kvs := rfl
theorem dcS_l {kvs : List (Key × D)} : dcS (.dic .l kvs) = some kvs := rfl
theorem dcS_f {kvs : List (Key × D)} : dcS (.dic .f kvs) = some kvs := rfl
end
end PD
/-! P, part 52: l.index(x); == of a class's own. -/
namespace PD
open PySem L2 PySem.Spec PyProof.Rows

/-- scalars, and which they are -/
def keyOf : D → Option (Int ⊕ Str)
  | .int i => some (.inl i)
  | .str s => some (.inr s)
  | _ => none
def keysOf : List D → Option (List (Int ⊕ Str))
  | [] => some []
  | d :: r => (keyOf d).bind fun k => (keysOf r).map (k :: ·)
def gIndex : List D → Option D
  | [.lst _ xs, y] => (keysOf xs).bind fun ks => (keyOf y).bind fun k => (ks.findIdx? fun z => decide (z = k)).map fun j => .int (j : Nat)
  | _ => none
def isLst1 : D → Bool
  | .lst _ _ => true
  | _ => false
def vK : Int ⊕ Str → V
  | .inl i => .int i
  | .inr s => .str s
theorem keyOf_eq {d : D} {k : Int ⊕ Str} (h : keyOf d = some k) : d = match k with | .inl i => .int i | .inr s => .str s := by
  cases d <;> first | (cases h; done) | (cases h; rfl)
theorem eqV_K (a b : Int ⊕ Str) : flatV (vK a) = true ∧ eqV (vK a) (vK b) = decide (a = b) := by
  cases a <;> cases b <;> refine ⟨rfl, ?_⟩ <;> simp [vK, eqV]
  · rw [Bool.eq_iff_iff]; simp
  · rw [Bool.eq_iff_iff]; simp
section
variable {G : GC} {X : Cx} {Z S : AS} {H : Hp}
theorem Rep.keyVal {d : D} {v : V} {A : AS} {k : Int ⊕ Str} (r : Rep G Z S H d v A) (h : keyOf d = some k) : v = vK k := by
  cases d <;> first | (cases h; done) | skip
  · cases h; exact r.intV
  · cases h; exact r.strV
theorem keysOf_V : ∀ {xs : List D} {ks : List (Int ⊕ Str)} {vs : List V}, keysOf xs = some ks → xs.length = vs.length → (∀ (i : Nat) d w, xs[i]? = some d → vs[i]? = some w → ∃ B, Rep G Z S H d w B) → vs = ks.map vK
  | [], ks, vs, h, hl, _ => by cases h; cases vs with | nil => rfl | cons _ _ => simp at hl
  | d :: r, ks, vs, h, hl, he => by
    cases vs with
    | nil => simp at hl
    | cons w ws =>
      rw [keysOf] at h
      cases e : keyOf d with
      | none => rw [e] at h; cases h
      | some k =>
        rw [e] at h
        cases e2 : keysOf r with
        | none => rw [e2] at h; cases h
        | some m =>
          rw [e2] at h
          cases h
          obtain ⟨B, rB⟩ := he 0 d w rfl rfl
          have et := keysOf_V (ks := m) (vs := ws) e2 (by simpa using hl) fun i d w e1 e2 => he (i + 1) d w (by simpa using e1) (by simpa using e2)
          rw [rB.keyVal e, et]
          rfl
theorem ok_index (h : XO G X) : MtOk G X "list.index" gIndex := .of mt_index fun x xs H Q ⟨Z, S, ds, d, zs, a, e, k⟩ => by
  unfold gIndex at e
  split at e
  · rename_i m xs' y'
    cases e1 : keysOf xs' with
    | none => rw [e1] at e; cases e
    | some ks =>
      cases e2 : keyOf y' with
      | none => rw [e1, e2] at e; cases e
      | some kk =>
        cases e3 : ks.findIdx? (fun z => decide (z = kk)) with
        | none => rw [e1, e2] at e; simp only [Option.bind_some, e3] at e; cases e
        | some j =>
          rw [e1, e2] at e
          simp only [Option.bind_some, e3, Option.map_some] at e
          cases e
          obtain ⟨x', w', A, B, ev, r1, r2⟩ := argv2 a
          cases ev
          obtain ⟨pa, vs, rfl, sq, hl, he, _⟩ := r1.lstV
          have hv := keysOf_V e1 hl fun i d w e1 e2 => let ⟨B, r, _⟩ := he i d w e1 e2; ⟨B, r⟩
          subst hv
          have hw := r2.keyVal e2
          subst hw
          obtain ⟨hj, hz, hno⟩ := List.findIdx?_eq_some_iff_getElem.mp e3
          refine ⟨pa, ks.map vK, vK kk, j, vK ks[j], rfl, rfl, by rw [h.K]; exact sq, (eqV_K kk kk).1, ?_, ?_, ?_, ?_, k.int⟩
          · rw [List.all_map, List.all_eq_true]; exact fun z _ => (eqV_K z z).1
          · rw [List.getElem?_map, List.getElem?_eq_getElem hj]; rfl
          · rw [(eqV_K _ _).2]; exact hz
          · intro i z' hi hz'
            obtain ⟨z, f1, rfl⟩ := getMap hz'
            rw [(eqV_K _ _).2]
            have := hno i hi
            obtain ⟨hik, f2⟩ := List.getElem?_eq_some_iff.mp f1
            rw [f2] at this
            simpa using this
  · cases e
section
variable {E : En} {p : Pl}
theorem j_lindex {v1 q1 v2 q2 : Bool} {o e : Expr} {a pos : Pos} {m : Str} {fo fa : DS → Option ER} (hG : G.K = E.K) (hm : m = Str.ofString "index") (h1 : JE E G p v1 q1 o fo) (h2 : JE E G p v2 q2 e fa) (k1 : v1 = true → q1 = true := by decide) (k2 : v2 = true → q2 = true := by decide)
    (hb : ∀ env : Env, attributeBase o m env (eval o env) = eval o env := by exact fun _ => rfl)
    (hf : ∀ env : Env, ((backTo pos (starEach [e] env)).all (fun x => !x.1) && (backToKw pos (keywordEach [] env)).all (fun x => x.1.isSome) && decide (([e] : List Expr).length + ([] : List Keyword).length + (if ([] : List Keyword).isEmpty then 0 else 1) < 30)) = true := by exact fun _ => rfl)
    (hl : (a.endLine == pos.line) = true := by rfl) (hs : StarNo e [] := by exact fun _ => rfl) :
    JE E G p false (q1 && (q2 && true)) (.Call (.Attribute o m a) [e] [] pos) (evOp gIndex (evCons v1 (q2 && true) (evGuard isLst1 fo) (evCons v2 true fa evNil))) := fun X W hA hT => by
  subst hm
  refine PE.mono (pe_bm (apos := a) (cpos := pos) PySem.F.plainAttrs_list PySem.F.slot_list_index PySem.F.type_list_index (ok_index (hA.xo hG)) (h1 X W hA hT) (pa_cons (h2 X W hA hT) pa_nil (hs _)) (hb _) (hf _) hl (hs _) (by rfl)) fun σ H Q h => ?_
  have g1 := rd_op (snd_of G gIndex) (rd_cons (rd_guard (P := fun v H => tyV X.K "list" v H) (fun Z S H d v A r hd => by
    cases d <;> first | (cases hd; done) | skip
    obtain ⟨pa, vs, rfl, sq, _⟩ := r.lstV
    refine .inl ⟨rfl, vs, ?_⟩
    rw [hA.K, ← hG]; exact sq) (fun _ _ _ h => h)) (rd_cons (fun _ _ _ h => h) rd_nil k2) k1) σ H Q h
  refine rdE.mono (fun v H1 ⟨ty, h2⟩ => ⟨ty, rdE.mono (fun y H2 h3 => ?_) h2⟩) g1
  exact h3
end
end
end PD
/-! P, part 53: == of a class's own. -/
namespace PD
open PySem L2 PySem.Spec PyProof.Rows

def isIntD : D → Bool
  | .int _ => true
  | _ => false
def gEqI (c : Nat) (F : FD) : List D → Option D
  | [a, b] => if (isIns c a && (isIns c b || isIntD b)) = true then (match F [lend a, lend b] with | some (.ok (.bl r), _) => some (.bl r) | _ => none) else none
  | _ => none
section
variable {G : GC} {X : Cx} {Z S : AS} {H : Hp} {E : En} {p : Pl}
theorem Rd.ex {a : Addr} {u : HO} (h : Rd H a u) : ∃ o, H a = some o := h.elim (fun h => ⟨_, h⟩) fun ⟨_, h⟩ => ⟨_, h⟩
theorem Rep.strict {d : D} {v : V} {A : AS} (r : Rep G Z S H d v A) : Rep G Z (fun a => S a ∧ ∃ o, H a = some o) H d v A := by
  induction r with
  | fz h hA => exact .fz h hA
  | lo h hl he hA => exact .lo h hl he hA
  | loo B h hl he hd hn ho hA ih => exact .loo B h hl ih hd hn ho hA
  | ll s h hl he hA => exact .ll ⟨s, _, h⟩ h hl he hA
  | lll s h hl he hA ih => exact .lll ⟨s, _, h⟩ h hl ih hA
  | dco h hl he hA => exact .dco h hl he hA
  | dcoo B h hl he hd hn ho hA ih => exact .dcoo B h hl ih hd hn ho hA
  | dcl s h hl he hA => exact .dcl ⟨s, Rd.ex h⟩ h hl he hA
  | dcll s h hl he hA ih => exact .dcll ⟨s, Rd.ex h⟩ h hl ih hA
  | dto h hl he hA => exact .dto h hl he hA
  | dtl s h hl he hA => exact .dtl ⟨s, _, h⟩ h hl he hA
  | ioo B h hl he hd hn ho hA ih => exact .ioo B h hl ih hd hn ho hA
  | ill s h hl he hA ih => exact .ill ⟨s, _, h⟩ h hl ih hA
theorem isIns_d {c : Nat} {d : D} (h : isIns c d = true) : ∃ m fs, d = .ins m c fs := by
  cases d <;> first | (cases h; done) | skip
  simp [isIns] at h
  subst h
  exact ⟨_, _, rfl⟩
theorem isInt_d {d : D} (h : isIntD d = true) : ∃ i, d = .int i := by
  cases d <;> first | (cases h; done) | exact ⟨_, rfl⟩
theorem ok_eqI {c k : Nat} {F : FD} {W : WX} (h : FdM E G c (Str.ofString "__eq__") k F []) (hk : k ≤ p.k) (hn : PySem.W.notFirst E.K (G.cls c) (.type "int") = true) (hA : At E p X) (hh : p.hot = false) (hG : G.K = E.K) (hT : Takes X W) : BinOk G X (compareOp .Eq) (gEqI c F) := by
  have hu := (hA.xo hG).hu
  have hKG := (hA.xo hG).K
  obtain ⟨f, fd, ps, ds0, dvs, h1, h2, h4, h5, h6, h7, h8⟩ := h
  obtain ⟨eP, ew, eK, emg, eb, _, _, hr, _, _, _, _⟩ := hA
  have hr := hr hh
  rw [← eP, ← ew, ← eK, ← emg, ← eb] at h1
  rw [← eK] at h2 h4 hn
  have hd0 : dvs = [] := by
    have := (h6 S0 (fun _ => none)).1
    exact List.eq_nil_of_length_eq_zero (by simpa using this.symm)
  subst hd0
  have hds : ds0 = [] := by cases h5; rfl
  subst hds
  intro pins s σ H x y v u Q I rx ry ⟨Z, S, ds, d, zs, a, e, kk⟩
  unfold gEqI at e
  split at e
  · rename_i a1 a2
    split at e
    · rename_i hc
      rw [Bool.and_eq_true, Bool.or_eq_true] at hc
      split at e
      · rename_i r δr hF
        cases e
        obtain ⟨x', y', A, B, ev, r1, r2⟩ := argv2 a
        cases ev
        have sp : spF G F [x, y] H (fun v H' => v = .bl r ∧ ∀ b o, H b = some o → H' b = some o) (WE W σ) := by
          refine ⟨[lend a1, lend a2], Z, fun j q => (S q ∨ A q ∨ B q) ∧ ∃ o, H q = some o, fun _ => S0, ?_, ⟨_, hF⟩, fun d δ' hF2 v2 H' Z' FS' A' po => ?_, fun x δ' hF2 => ?_⟩
          · refine ⟨rfl, fun j d e => ?_, fun _ _ _ z => z, fun _ _ _ z => z.elim, zs, fun q ⟨_, _, z⟩ => z, fun q ⟨_, z⟩ => z.elim⟩
            match j, e with
            | 0, e =>
              simp at e; subst e
              exact ⟨x, rfl, (r1.lent.strict).mono (fun _ z => z) (fun q z => ⟨z.1.imp id .inl, z.2⟩) fun _ _ _ e => e⟩
            | 1, e =>
              simp at e; subst e
              exact ⟨y, rfl, (r2.lent.strict).mono (fun _ z => z) (fun q z => ⟨z.1.imp id .inr, z.2⟩) fun _ _ _ e => e⟩
            | j + 2, e => simp at e
          · rw [hF] at hF2
            cases hF2
            have vl := po.vl
            rw [if_neg Bool.false_ne_true] at vl
            exact ⟨vl.1.blV, fun b o e => po.st.keep b o e noOwn0⟩
          · rw [hF] at hF2; cases hF2
        obtain ⟨m1, fs1, rfl⟩ := isIns_d hc.1
        obtain ⟨pa, dx, gs, rfl, ha, _⟩ := r1.insV
        cases rx
        obtain ⟨mA, J, _⟩ := ins_get I.hok ha
        obtain ⟨od, J, _⟩ := J.look
        obtain ⟨m, hFr⟩ := I.fr
        show wpAny (model X.prog X.w) X.A (richCompare .Eq (.ref pa) u) _ _ _
        have hl := h1.len _ _ _ _ sp
        have fin : wpAny (model X.prog X.w) X.A (call (.ref f) [.ref pa, u]) (PySem.W.CmpBack (EP X pins σ Q)) X.xe s := by
          refine wpAny_call (codeAny_mono (h1.run X.A X.stack s H ⟨[.ref pa, u], []⟩ [.ref pa, u] [.ref pa, y] _ (WE W σ) (hr.mono hk) I.env0 (by
            have := h4 s [.ref pa, u] I.kIn (by simpa using hl)
            simpa using this) (.cons rfl (.cons ry .nil)) sp) fun res s' hq => ?_)
          cases res with
          | error e => exact passAt hT σ pins H s e s' I hq
          | ok fl =>
            cases fl with
            | ret w =>
              obtain ⟨z, H', I', rz, ez, ex⟩ := I.after hq
              subst ez
              cases rz
              exact ⟨.bl r, H', I', rfl, kk (.bl r) H' Z S0 (fun b o e => ex b o e) (fun _ z => z) (fun _ z => .inl z) (.fz (.bl r) fun _ z => z) fun _ z => z.elim⟩
            | next => exact False.elim hq
            | brk => exact False.elim hq
            | cont => exact False.elim hq
        rcases hc.2 with hc2 | hc2
        · obtain ⟨m2, fs2, rfl⟩ := isIns_d hc2
          obtain ⟨pb, dy, gs2, rfl, hb, _⟩ := r2.insV
          cases ry
          obtain ⟨mB, J', _⟩ := ins_get I.hok hb
          obtain ⟨od', J', _⟩ := J'.look
          exact PySem.W.cmp_K (op := .Eq) (tb := .ref (G.cls c)) (by omega) hFr I.ok.mod.kin J J'.type (by simp [PySem.W.notFirst]) h2.at_ h2.fn fin
        · obtain ⟨i, rfl⟩ := isInt_d hc2
          rw [r2.intV] at ry
          obtain ⟨tk, rfl⟩ := id ry
          exact PySem.W.cmp_K (op := .Eq) (tb := .type "int") (by omega) hFr I.ok.mod.kin J (PySem.W.Looks.of_pure rfl) hn h2.at_ h2.fn fin
      · cases e
    · cases e
  · cases e
theorem j_cmpI {c k : Nat} {F : FD} {ks : List Bool} {qt : Bool} {a b : Expr} {pos : Pos} {fa : DS → Option EA} (hG : G.K = E.K) (h : FdM E G c (Str.ofString "__eq__") k F []) (hk : k ≤ p.k) (hn : PySem.W.notFirst E.K (G.cls c) (.type "int") = true) (ha : J2 E G p ks qt a b fa) (hh : p.hot = false := by rfl) (hm : behindInMarks .Eq b = false := by rfl) : JE E G p false qt (.Compare a [.Eq] [b] pos) (evOp (gEqI c F) fa) := fun X W hA hT =>
  let ⟨_, _, h1, h2, h3⟩ := ha.go hA hT
  PE.mono (pe_cmpR (ok_eqI h hk hn hA hh hG hT) h1 h2 hm) fun σ H Q h => rd_op (snd_of G (gEqI c F)) h3 σ H Q h
end
end PD
/-! P, part 54: isinstance(x, C), C a class of the text. -/
namespace PD
open PySem L2 PySem.Spec PyProof.Rows

/-- tab: the classes of instances that may come, and whether each is one of C's -/
def isC (tab : List (Nat × Bool)) : D → Option Bool
  | .ins _ c _ => tab.lookup c
  | d => (tyOf d).map fun _ => false
def evIsC (tab : List (Nat × Bool)) (f : DS → Option ER) : DS → Option ER := fun δ => match f δ with
  | none => none
  | some (.ex x, δ') => some (.ex x, δ')
  | some (.ok d, δ') => match isC tab d with
    | none => none
    | some b => some (.ok (.bl b), δ')
/-- what isinstance asks of the classes -/
structure IsInsOk (K : PySem.W.Frag) (G : GC) (tab : List (Nat × Bool)) (j : Nat) : Prop where
  ty : ∀ a ∈ tys, PySem.W.kitOne K (.type a) (.ref (G.cls j)) = some false
  cls : ∀ c b, (c, b) ∈ tab → PySem.W.kitOne K (.ref (G.cls c)) (.ref (G.cls j)) = some b ∧ Cls K (G.cls c) ∧ PySem.W.findIn K (.ref (G.cls c)) "__class__" = some (some (.builtin "object.__class__")) ∧
      PySem.W.specialIn K (.builtin "object.__class__") "__get__" = some (some (.builtin "getset_descriptor.__get__")) ∧ PySem.W.takesIn K (.builtin "object.__class__") = some true ∧ PySem.W.mroIn K (G.cls c) (.type "object") = some true
section
variable {E : En} {G : GC} {W : WX} {p : Pl}
theorem isC_o {tab : List (Nat × Bool)} {d : D} (h : ∀ m c fs, d ≠ .ins m c fs) : isC tab d = (tyOf d).map fun _ => false := by
  cases d <;> first | rfl | exact absurd rfl (h _ _ _)
theorem lookup_mem {tab : List (Nat × Bool)} {c : Nat} {b : Bool} (h : tab.lookup c = some b) : (c, b) ∈ tab := by
  induction tab with
  | nil => cases h
  | cons x r ih =>
    obtain ⟨c', b'⟩ := x
    rw [List.lookup_cons] at h
    split at h
    · rename_i e
      have := beq_iff_eq.mp e
      subst this
      cases h
      exact List.mem_cons_self
    · exact List.mem_cons_of_mem _ (ih h)
theorem rd_isC {vw qt : Bool} {tab : List (Nat × Bool)} {j : Nat} {f : DS → Option ER} {te : TE} (hK : IsInsOk G.K G tab j) (ha : ∀ σ H Q, rdE G W vw qt f σ H Q → te σ H Q) : ∀ σ H Q, rdE G W false qt (evIsC tab f) σ H Q → te σ H fun x H1 => rIsi G.K [x, .ref (G.cls j)] H1 Q := by
  rintro σ H Q ⟨δ, Z, S, FS, sr, ⟨w, hf⟩, ok, ex⟩
  unfold evIsC at hf ok ex
  refine ha σ H _ ⟨δ, Z, S, FS, sr, ?_, fun d δ' h v H' Z' FS' A q => ?_, fun x δ' h => ?_⟩
  · cases q : f δ with
    | none => rw [q] at hf; cases hf
    | some w => exact ⟨w, rfl⟩
  · rw [h] at hf ok
    simp only at hf ok
    cases e : isC tab d with
    | none => rw [e] at hf; cases hf
    | some b =>
      rw [e] at ok
      have rp : ∃ S A, Rep G Z' S H' d v A := by
        have vl := q.vl
        split at vl
        · exact ⟨_, _, vl.1⟩
        · exact ⟨_, _, vl.1⟩
      obtain ⟨S1, A1, rp⟩ := rp
      obtain ⟨t, tx, kt⟩ : ∃ t, TyX G.K H' v t ∧ PySem.W.kitOne G.K t (.ref (G.cls j)) = some b := by
        have other : ∀ a, tyOf d = some a → false = b → ∃ t, TyX G.K H' v t ∧ PySem.W.kitOne G.K t (.ref (G.cls j)) = some b := fun a ea eb => by
          subst eb
          exact ⟨_, tyX_of rp ea, hK.ty a (tyOf_mem ea)⟩
        cases d with
        | ins m c fs =>
          obtain ⟨k1, k2, k3, k4, k5, k6⟩ := hK.cls c b (lookup_mem e)
          obtain ⟨a, dx, gs, rfl, hh, _⟩ := rp.insV
          exact ⟨_, .base (.ins hh k2 k3 k4 k5 k6), k1⟩
        | _ =>
          rw [isC_o (by intro _ _ _ z; cases z)] at e
          obtain ⟨a, ea, eb⟩ := Option.map_eq_some_iff.mp e
          exact other a ea eb
      exact ⟨v, .ref (G.cls j), t, .ref (G.cls j), b, rfl, .own (G.cls j), tx, kt, ok _ _ rfl _ H' Z' FS' S0 (q.b.bl _)⟩
  · rw [h] at ex
    exact ex x δ' rfl
theorem j_isC {vw qt : Bool} {tab : List (Nat × Bool)} {j : Nat} {x y : Str} {q q2 pos : Pos} {e : Expr} {f : DS → Option ER} (hG : G.K = E.K) (hx : x = Str.ofString "isinstance") (hg : glOk p x = true) (hm : E.mg x = none) (hgy : glOk p y = true) (hmy : E.mg y = some (.ref (G.cls j))) (hK : IsInsOk E.K G tab j) (ha : JE E G p vw qt e f)
    (hs : StarNo e [.Name y q2] := by exact fun _ => rfl) (hs2 : NoStar [.Name y q2] := by exact fun _ _ => rfl) : JE E G p false qt (.Call (.Name x q) [e, .Name y q2] [] pos) (evIsC tab f) := fun X W hA hTk => by
  obtain ⟨g1, g2, g3⟩ := at_gl hg hA
  obtain ⟨k1, k2, k3⟩ := at_gl hgy hA
  have hb : bootBuiltins x = some (.builtin "isinstance") := by rw [hx]; decide +kernel
  refine PE.mono (pe_callB call_isi g1 (by rw [hA.mg]; exact hm) hb (pa_cons (ha X W hA hTk) (pa_cons (pe_glob (v := .ref (G.cls j)) k1 (by rw [hA.mg]; exact hmy) rfl k2) pa_nil (by rfl)) (hs _)) g3 g2 (hs _) (hs2 _ _)) fun σ H Q h => ?_
  rw [← hG] at hK
  have := rd_isC (G := G) (W := W) (vw := vw) (te := rdE G W vw qt f) hK (fun _ _ _ h => h) σ H Q h
  rw [hG, ← hA.K] at this
  exact this
theorem e_isC {tab : List (Nat × Bool)} {f : DS → Option ER} {δ : DS} {Q : RR D → DS → Prop} : GE (evIsC tab f) δ Q = GE f δ (kk (fun d δ' => has (isC tab d) fun b => Q (.ok (.bl b)) δ') Q) :=
  Eq.trans (bindG (h := fun d δ' => match isC tab d with | none => none | some b => some (.ok (.bl b), δ')) (by unfold evIsC; rcases f δ with _ | ⟨_ | _, _⟩ <;> rfl)) (congrArg _ (kkc fun d δ' => by generalize isC tab d = o; cases o with | none => rw [has_none]; exact ex2n | some a => rw [has_some]; exact ex2))
theorem isC_1 {c : Nat} {m : Fl} {fs : List (Nat × D)} {b : Bool} {r : List (Nat × Bool)} : isC ((c, b) :: r) (.ins m c fs) = some b := by
  show List.lookup c ((c, b) :: r) = some b
  rw [List.lookup_cons, beq_self_eq_true]
/-- what the run shows of the class -/
def icB (K : PySem.W.Frag) (C : Addr) : Bool :=
  tys.all (fun a => decide (PySem.W.kitOne K (.type a) (.ref C) = some false)) && (decide (PySem.W.kitOne K (.ref C) (.ref C) = some true) && ((PySem.W.findIn K (.ref C) "__class__" == some (some (.builtin "object.__class__"))) &&
    ((PySem.W.specialIn K (.builtin "object.__class__") "__get__" == some (some (.builtin "getset_descriptor.__get__"))) && (decide (PySem.W.takesIn K (.builtin "object.__class__") = some true) && decide (PySem.W.mroIn K C (.type "object") = some true)))))
theorem icB_ok {K : PySem.W.Frag} {G : GC} {c : Nat} (h : icB K (G.cls c) = true) (hc : Cls K (G.cls c)) : IsInsOk K G [(c, true)] c := by
  unfold icB at h
  simp only [Bool.and_eq_true] at h
  obtain ⟨h1, h2, h3, h4, h5, h6⟩ := h
  refine ⟨fun a ha => of_decide_eq_true (List.all_eq_true.mp h1 a ha), fun c' b hm => ?_⟩
  obtain ⟨rfl, rfl⟩ := Prod.mk.inj (List.mem_singleton.mp hm)
  exact ⟨of_decide_eq_true h2, hc, beq_iff_eq.mp h3, beq_iff_eq.mp h4, of_decide_eq_true h5, of_decide_eq_true h6⟩
theorem isC_i {tab : List (Nat × Bool)} {m : Fl} {c : Nat} {fs : List (Nat × D)} : isC tab (.ins m c fs) = tab.lookup c := rfl
theorem isC_int {tab : List (Nat × Bool)} {i : Int} : isC tab (.int i) = some false := rfl
end
end PD
namespace K13
open PySem L2 PD PyProof.Rows
def exm (i j : Nat) : Bool := (([[true, false, false], [true, true, false], [true, false, true]] : List (List Bool)).getD i []).getD j false
def ev_Tide__points : DS → Option ES := evSeq (evRet (evOp gList (evCons true true (evAttr 3 0 (evVar 0)) (evNil))))
  (evNx)
def F_Tide__points : FD := fnOf 1 1 false ev_Tide__points
def ev_Tide____eq__ : DS → Option ES := evSeq (evRet (evAndV (evIsC [(3, true)] (evVar 1)) (evOpq false (evOp gEq (evCons false true (evMeth 3 0 F_Tide__points [] [] (evNil)) (evCons false true (evMeth 3 1 F_Tide__points [] [] (evNil)) evNil))))))
  (evNx)
def F_Tide____eq__ : FD := fnOf 2 2 false ev_Tide____eq__
def ev_is_number : DS → Option ES := evSeq (evIfS (evOrT (evTr truD (evIsi "bool" (evVar 0))) (evNotT (evTr truD (evIsi "int" (evVar 0))))) (evSeq (evRet (evCst (.bl false)))
  (evNx)) (evNx))
  (evSeq (evRet (evChain gLe gLe (evVar 1) (evVar 0) (evVar 2)))
  (evNx))
def F_is_number : FD := fnOf 3 3 false ev_is_number
def ev_checked_number : DS → Option ES := evSeq (evIfS (evNotT (evTr truD (evCall F_is_number [true, true, true] [] (evDefer 0 (evDefer 1 (evDefer 2 (evNil))))))) (evSeq (evRaise 1 (evCons false true (evOp gAdd (evCons false true (evOp gAdd (evCons false true (evOp gAdd (evCons false true (evCst (.str (Str.ofString "no number from "))) (evCons false true (evOp gStrOf (evDefer 1 (evNil))) evNil))) (evCons false true (evCst (.str (Str.ofString " to "))) evNil))) (evCons false true (evOp gStrOf (evDefer 2 (evNil))) evNil))) (evNil)))
  (evNx)) (evNx))
  (evSeq (evRet (evMv 0))
  (evNx))
def F_checked_number : FD := fnOf 3 3 false ev_checked_number
def bd_Tide____init___0 : DS → Option ES := evSeq (evDrop (evCall F_checked_number [true, false, false] [] (evDefer 2 (evCons false true (evCst (.int 0)) (evCons false true (evCst (.int 20000)) (evNil))))))
  (evSeq (evDrop (evCall F_checked_number [true] [.int 0, .int 1000000] (evDefer 3 (evNil))))
  (evSeq (evIfS (evAndT (evTr truD (evAttr 3 0 (evVar 0))) (evTr blD (evOp gLe (evDefer 2 (evCons false true (evOp gItem (evCons false true (evOp gItem (evCons true true (evAttr 3 0 (evVar 0)) (evCons false true (evOp gNeg (evCons false true (evCst (.int 1)) evNil)) evNil))) (evCons false true (evCst (.int 0)) evNil))) evNil))))) (evSeq (evRaise 1 (evCons false true (evCst (.str (Str.ofString "points out of order"))) (evNil)))
  (evNx)) (evNx))
  (evSeq (evAppF 0 3 0 (evTup [true, true] (evDefer 2 (evDefer 3 (evNil)))))
  (evNx))))
def ev_Tide____init__ : DS → Option ES := evSeq (evIfS (evNotT (evTr truD (evVar 1))) (evSeq (evRaise 1 (evCons false true (evCst (.str (Str.ofString "no point"))) (evNil)))
  (evNx)) (evNx))
  (evSeq (evIfS (evTr blD (evOp gGt (evCons false true (evOp gLen (evDefer 1 (evNil))) (evCons false true (evCst (.int 60)) evNil)))) (evSeq (evRaise 2 (evCons false true (evCst (.str (Str.ofString "points"))) (evNil)))
  (evNx)) (evNx))
  (evSeq (evSetF 0 3 0 (evLst [] (evNil)))
  (evSeq (evFor (evSrc (some 1) true (evVar 1)) (tgTup [2, 3]) bd_Tide____init___0)
  (evNx))))
def F_Tide____init__ : FD := fnOf 4 2 true ev_Tide____init__
def ev__between : DS → Option ES := evSeq (evAsg 3 (evOp gSub (evCons false true (evOp gItem (evDefer 1 (evCons false true (evCst (.int 1)) evNil))) (evCons false true (evOp gItem (evDefer 0 (evCons false true (evCst (.int 1)) evNil))) evNil))))
  (evSeq (evRet (evOp gAdd (evCons false true (evOp gItem (evDefer 0 (evCons false true (evCst (.int 1)) evNil))) (evCons false true (evOp gDiv (evCons false true (evOp gMul (evDefer 3 (evCons false true (evOp gSub (evDefer 2 (evCons false true (evOp gItem (evDefer 0 (evCons false true (evCst (.int 0)) evNil))) evNil))) evNil))) (evCons false true (evOp gSub (evCons false true (evOp gItem (evDefer 1 (evCons false true (evCst (.int 0)) evNil))) (evCons false true (evOp gItem (evDefer 0 (evCons false true (evCst (.int 0)) evNil))) evNil))) evNil))) evNil))))
  (evNx))
def F__between : FD := fnOf 4 3 false ev__between
def bd_Tide__height_0 : DS → Option ES := evSeq (evIfS (evTr blD (evOp gGt (evCons false true (evOp gItem (evDefer 3 (evCons false true (evCst (.int 0)) evNil))) (evCons true true (evVar 1) evNil)))) (evSeq (evIfS (evTr blD (evOp gGt (evCons false true (evOp gItem (evDefer 2 (evCons false true (evCst (.int 0)) evNil))) (evCons true true (evVar 1) evNil)))) (evSeq (evRet (evOp gItem (evDefer 2 (evCons false true (evCst (.int 1)) evNil))))
  (evNx)) (evNx))
  (evSeq (evRet (evCall F__between [true, true, true] [] (evDefer 2 (evDefer 3 (evDefer 1 (evNil))))))
  (evNx))) (evNx))
  (evSeq (evAsg 2 (evFv 3))
  (evNx))
def ev_Tide__height : DS → Option ES := evSeq (evAsg 2 (evOp gItem (evCons true true (evAttr 3 0 (evVar 0)) (evCons false true (evCst (.int 0)) evNil))))
  (evSeq (evFor (evSrc none true (evAttr 3 0 (evVar 0))) (tgName 3) bd_Tide__height_0)
  (evSeq (evRet (evOp gItem (evDefer 2 (evCons false true (evCst (.int 1)) evNil))))
  (evNx)))
def F_Tide__height : FD := fnOf 4 2 false ev_Tide__height
def bd_tidy_0 : DS → Option ES := evSeq (evIfS (evAndT (evTr truD (evVar 1)) (evTr blD (evOp gLe (evDefer 2 (evCons false true (evOp gAdd (evCons false true (evOp gItem (evCons false true (evOp gItem (evDefer 1 (evCons false true (evOp gNeg (evCons false true (evCst (.int 1)) evNil)) evNil))) (evCons false true (evCst (.int 1)) evNil))) (evCons false true (evCst (.int 1)) evNil))) evNil))))) (evSeq (evSet 1 (evTup [false, false] (evCons false true (evOp gItem (evCons false true (evOp gItem (evDefer 1 (evCons false true (evOp gNeg (evCons false true (evCst (.int 1)) evNil)) evNil))) (evCons false true (evCst (.int 0)) evNil))) (evCons false true (evOp gMax2 (evCons false true (evOp gItem (evCons false true (evOp gItem (evDefer 1 (evCons false true (evOp gNeg (evCons false true (evCst (.int 1)) evNil)) evNil))) (evCons false true (evCst (.int 1)) evNil))) (evDefer 3 (evNil)))) (evNil)))) (evOp gNeg (evCons false true (evCst (.int 1)) evNil)))
  (evNx)) (evSeq (evApp 1 (evTup [true, true] (evDefer 2 (evDefer 3 (evNil)))))
  (evNx)))
  (evNx)
def ev_tidy : DS → Option ES := evSeq (evAsg 1 (evLst [] (evNil)))
  (evSeq (evFor (evSrc none false (evOp gSorted (evDefer 0 (evNil)))) (tgTup [2, 3]) bd_tidy_0)
  (evSeq (evRet (evMv 1))
  (evNx)))
def F_tidy : FD := fnOf 4 1 false ev_tidy
def wt_Tide___turn_0 : DS → Option EB := evTr blD (evOp gGt (evCons false true (evOp gSub (evDefer 3 (evCons true true (evVar 2) evNil))) (evCons false true (evCst (.int 1)) evNil)))
def bd_Tide___turn_1 : DS → Option ES := evSeq (evAsg 5 (evOp gDiv (evCons false true (evOp gAdd (evDefer 2 (evCons true true (evVar 3) evNil))) (evCons false true (evCst (.int 2)) evNil))))
  (evSeq (evIfS (evTr blD (evOp gEq (evCons false true (evOp gGe (evCons false true (evMeth 3 0 F_Tide__height [true] [] (evDefer 5 (evNil))) (evCons true true (evVar 1) evNil))) (evCons true true (evVar 4) evNil)))) (evSeq (evAsg 3 (evFv 5))
  (evNx)) (evSeq (evAsg 2 (evFv 5))
  (evNx)))
  (evNx))
def ev_Tide___turn : DS → Option ES := evSeq (evWhl wt_Tide___turn_0 bd_Tide___turn_1 1000000)
  (evSeq (evRet (evIf (evTr truD (evVar 4)) (evFv 3) (evFv 2)))
  (evNx))
def F_Tide___turn : FD := fnOf 6 5 false ev_Tide___turn
def ev_Tide___piece : DS → Option ES := evSeq (evAsg 4 (evOp gGe (evCons false true (evMeth 3 0 F_Tide__height [true] [] (evDefer 2 (evNil))) (evCons true true (evVar 1) evNil))))
  (evSeq (evAsg 5 (evOp gGe (evCons false true (evMeth 3 0 F_Tide__height [true] [] (evDefer 3 (evNil))) (evCons true true (evVar 1) evNil))))
  (evSeq (evIfS (evAndT (evTr truD (evVar 4)) (evTr truD (evVar 5))) (evSeq (evRet (evTup [true, true] (evDefer 2 (evDefer 3 (evNil)))))
  (evNx)) (evNx))
  (evSeq (evIfS (evAndT (evNotT (evTr truD (evVar 4))) (evNotT (evTr truD (evVar 5)))) (evSeq (evRet (evCst .non))
  (evNx)) (evNx))
  (evSeq (evIfS (evTr truD (evVar 5)) (evSeq (evRet (evTup [false, true] (evCons false true (evMeth 3 0 F_Tide___turn [true, true, true, false] [] (evDefer 1 (evDefer 2 (evDefer 3 (evCons false true (evCst (.bl true)) (evNil)))))) (evDefer 3 (evNil)))))
  (evNx)) (evNx))
  (evSeq (evRet (evTup [true, false] (evDefer 2 (evCons false true (evMeth 3 0 F_Tide___turn [true, true, true, false] [] (evDefer 1 (evDefer 2 (evDefer 3 (evCons false true (evCst (.bl false)) (evNil)))))) (evNil)))))
  (evNx))))))
def F_Tide___piece : FD := fnOf 6 4 false ev_Tide___piece
def ct_Tide__spans_above_0 : DS → Option EB := evTr blD (evChain gLt gLe (evVar 2) (evOp gItem (evDefer 8 (evCons false true (evCst (.int 0)) evNil))) (evVar 3))
def ce_Tide__spans_above_1 : DS → Option ER := evOp gItem (evDefer 8 (evCons false true (evCst (.int 0)) evNil))
def bd_Tide__spans_above_2 : DS → Option ES := evSeq (evAsg 7 (evMeth 3 0 F_Tide___piece [true, false, false] [] (evDefer 1 (evCons false true (evOp gItem (evDefer 4 (evCons true true (evVar 6) evNil))) (evCons false true (evOp gSub (evCons false true (evOp gItem (evDefer 4 (evCons false true (evOp gAdd (evDefer 6 (evCons false true (evCst (.int 1)) evNil))) evNil))) (evCons false true (evCst (.int 1)) evNil))) (evNil))))))
  (evSeq (evIfS (evTr blD (evOp gIsNot (evDefer 7 (evCons false true (evCst .non) evNil)))) (evSeq (evApp 5 (evFv 7))
  (evNx)) (evNx))
  (evNx))
def ev_Tide__spans_above : DS → Option ES := evSeq (evAsg 4 (evOp gSorted (evCons false true (evOp gAdd (evCons false false (evLst [true, false] (evDefer 2 (evCons false true (evOp gAdd (evDefer 3 (evCons false true (evCst (.int 1)) evNil))) (evNil)))) (evCons false true (evLc (evSrc none true (evAttr 3 0 (evVar 0))) (tgName 8) ct_Tide__spans_above_0 ce_Tide__spans_above_1 [8]) evNil))) (evNil))))
  (evSeq (evAsg 5 (evLst [] (evNil)))
  (evSeq (evFor (evRng rng1Of (evCons false true (evOp gSub (evCons false true (evOp gLen (evDefer 4 (evNil))) (evCons false true (evCst (.int 1)) evNil))) (evNil))) (tgName 6) bd_Tide__spans_above_2)
  (evSeq (evRet (evCall F_tidy [true] [] (evDefer 5 (evNil))))
  (evNx))))
def F_Tide__spans_above : FD := fnOf 9 4 false ev_Tide__spans_above
def ev__first_as_high : DS → Option ES := evSeq (evAsg 3 (evMeth 3 0 F_Tide__height [true] [] (evDefer 2 (evNil))))
  (evSeq (evAsg 4 (evMeth 3 0 F_Tide__spans_above [true, true, true] [] (evDefer 3 (evDefer 1 (evDefer 2 (evNil))))))
  (evSeq (evRet (evOp gItem (evCons false true (evOp gItem (evDefer 4 (evCons false true (evCst (.int 0)) evNil))) (evCons false true (evCst (.int 0)) evNil))))
  (evNx)))
def F__first_as_high : FD := fnOf 5 3 false ev__first_as_high
def ct_Tide__highest_0 : DS → Option EB := evYes
def ce_Tide__highest_1 : DS → Option ER := evOp gItem (evDefer 5 (evCons false true (evCst (.int 0)) evNil))
def bd_Tide__highest_2 : DS → Option ES := evSeq (evIfS (evAndT (evTr blD (evChain gLe gLe (evVar 1) (evVar 4) (evVar 2))) (evTr blD (evOp gGt (evCons false true (evMeth 3 0 F_Tide__height [true] [] (evDefer 4 (evNil))) (evCons false true (evMeth 3 0 F_Tide__height [true] [] (evDefer 3 (evNil))) evNil))))) (evSeq (evAsg 3 (evFv 4))
  (evNx)) (evNx))
  (evNx)
def ev_Tide__highest : DS → Option ES := evSeq (evAsg 3 (evFv 1))
  (evSeq (evFor (evSrc none false (evOp gAdd (evCons false true (evLc (evSrc none true (evAttr 3 0 (evVar 0))) (tgName 5) ct_Tide__highest_0 ce_Tide__highest_1 [5]) (evCons false true (evLst [true] (evDefer 2 (evNil))) evNil)))) (tgName 4) bd_Tide__highest_2)
  (evSeq (evRet (evCall F__first_as_high [true, true, true] [] (evDefer 0 (evDefer 1 (evDefer 3 (evNil))))))
  (evNx)))
def F_Tide__highest : FD := fnOf 6 3 false ev_Tide__highest
def ct_moved_0 : DS → Option EB := evYes
def ce_moved_1 : DS → Option ER := evTup [false, false] (evCons false true (evOp gAdd (evDefer 3 (evCons true true (evVar 1) evNil))) (evCons false true (evOp gAdd (evDefer 4 (evCons true true (evVar 2) evNil))) (evNil)))
def ev_moved : DS → Option ES := evSeq (evRet (evMake 3 F_Tide____init__ [false] [] (evCons false true (evLc (evSrc none false (evMeth 3 0 F_Tide__points [] [] (evNil))) (tgTup [3, 4]) ct_moved_0 ce_moved_1 [3, 4]) (evNil))))
  (evNx)
def F_moved : FD := fnOf 5 3 false ev_moved
def bd__spans_where_0 : DS → Option ES := evSeq (evIfS (evTr blD (evOp gGt (evCons false true (evOp gMul (evDefer 3 (evCons false true (evOp gSub (evCons false true (evMeth 3 0 F_Tide__height [false] [] (evCons false true (evOp gAdd (evDefer 5 (evCons false true (evCst (.int 1)) evNil))) (evNil))) (evCons false true (evMeth 3 0 F_Tide__height [true] [] (evDefer 5 (evNil))) evNil))) evNil))) (evCons false true (evCst (.int 0)) evNil)))) (evSeq (evIfS (evAndT (evTr truD (evVar 4)) (evTr blD (evOp gEq (evCons false true (evOp gItem (evCons false true (evOp gItem (evDefer 4 (evCons false true (evOp gNeg (evCons false true (evCst (.int 1)) evNil)) evNil))) (evCons false true (evCst (.int 1)) evNil))) (evCons false true (evOp gSub (evDefer 5 (evCons false true (evCst (.int 1)) evNil))) evNil))))) (evSeq (evSet 4 (evTup [false, true] (evCons false true (evOp gItem (evCons false true (evOp gItem (evDefer 4 (evCons false true (evOp gNeg (evCons false true (evCst (.int 1)) evNil)) evNil))) (evCons false true (evCst (.int 0)) evNil))) (evDefer 5 (evNil)))) (evOp gNeg (evCons false true (evCst (.int 1)) evNil)))
  (evNx)) (evSeq (evApp 4 (evTup [true, true] (evDefer 5 (evDefer 5 (evNil)))))
  (evNx)))
  (evNx)) (evNx))
  (evNx)
def ev__spans_where : DS → Option ES := evSeq (evAsg 4 (evLst [] (evNil)))
  (evSeq (evFor (evRng rng2Of (evDefer 1 (evCons false true (evOp gAdd (evDefer 2 (evCons false true (evCst (.int 1)) evNil))) (evNil)))) (tgName 5) bd__spans_where_0)
  (evSeq (evRet (evMv 4))
  (evNx)))
def F__spans_where : FD := fnOf 6 4 false ev__spans_where
def ev_flood : DS → Option ES := evSeq (evRet (evCall F__spans_where [true, true, true, false] [] (evDefer 0 (evDefer 1 (evDefer 2 (evCons false true (evCst (.int 1)) (evNil)))))))
  (evNx)
def F_flood : FD := fnOf 3 3 false ev_flood
def ev_ebb : DS → Option ES := evSeq (evRet (evCall F__spans_where [true, true, true, false] [] (evDefer 0 (evDefer 1 (evDefer 2 (evCons false true (evOp gNeg (evCons false true (evCst (.int 1)) evNil)) (evNil)))))))
  (evNx)
def F_ebb : FD := fnOf 3 3 false ev_ebb
def bd_meet_spans_0 : DS → Option ES := evSeq (evAsg 7 (evOp gMax2 (evDefer 3 (evDefer 5 (evNil)))))
  (evSeq (evAsg 8 (evOp gMin2 (evDefer 4 (evDefer 6 (evNil)))))
  (evSeq (evIfS (evTr blD (evOp gLe (evDefer 7 (evCons true true (evVar 8) evNil)))) (evSeq (evApp 2 (evTup [true, true] (evDefer 7 (evDefer 8 (evNil)))))
  (evNx)) (evNx))
  (evNx)))
def bd_meet_spans_1 : DS → Option ES := evSeq (evFor (evSrc (some 1) true (evVar 1)) (tgTup [5, 6]) bd_meet_spans_0)
  (evNx)
def ev_meet_spans : DS → Option ES := evSeq (evAsg 2 (evLst [] (evNil)))
  (evSeq (evFor (evSrc (some 0) true (evVar 0)) (tgTup [3, 4]) bd_meet_spans_1)
  (evSeq (evRet (evMv 2))
  (evNx)))
def F_meet_spans : FD := fnOf 9 2 false ev_meet_spans
def bd_turned_0 : DS → Option ES := evSeq (evIfS (evTr blD (evOp gGt (evDefer 5 (evCons true true (evVar 4) evNil)))) (evSeq (evApp 3 (evTup [true, false] (evDefer 4 (evCons false true (evOp gMin2 (evCons false true (evOp gSub (evDefer 5 (evCons false true (evCst (.int 1)) evNil))) (evDefer 2 (evNil)))) (evNil)))))
  (evNx)) (evNx))
  (evSeq (evAsg 4 (evOp gMax2 (evDefer 4 (evCons false true (evOp gAdd (evDefer 6 (evCons false true (evCst (.int 1)) evNil))) (evNil)))))
  (evNx))
def ct_turned_1 : DS → Option EB := evAndT (evTr blD (evOp gLe (evCons false true (evOp gItem (evDefer 7 (evCons false true (evCst (.int 0)) evNil))) (evCons false true (evOp gItem (evDefer 7 (evCons false true (evCst (.int 1)) evNil))) evNil)))) (evTr blD (evOp gLe (evCons false true (evOp gItem (evDefer 7 (evCons false true (evCst (.int 0)) evNil))) (evCons true true (evVar 2) evNil))))
def ce_turned_2 : DS → Option ER := evFv 7
def ev_turned : DS → Option ES := evSeq (evAsg 3 (evLst [] (evNil)))
  (evSeq (evAsg 4 (evFv 1))
  (evSeq (evFor (evSrc (some 0) true (evVar 0)) (tgTup [5, 6]) bd_turned_0)
  (evSeq (evIfS (evTr blD (evOp gLe (evDefer 4 (evCons true true (evVar 2) evNil)))) (evSeq (evApp 3 (evTup [true, true] (evDefer 4 (evDefer 2 (evNil)))))
  (evNx)) (evNx))
  (evSeq (evRet (evLc (evSrc (some 3) true (evVar 3)) (tgName 7) ct_turned_1 ce_turned_2 [7]))
  (evNx)))))
def F_turned : FD := fnOf 8 3 false ev_turned
def ct_length_0 : DS → Option EB := evYes
def ce_length_1 : DS → Option ER := evOp gAdd (evCons false true (evOp gSub (evDefer 2 (evCons true true (evVar 1) evNil))) (evCons false true (evCst (.int 1)) evNil))
def ev_length : DS → Option ES := evSeq (evRet (evOp gSum (evCons false true (evLc (evSrc (some 0) true (evVar 0)) (tgTup [1, 2]) ct_length_0 ce_length_1 [1, 2]) (evNil))))
  (evNx)
def F_length : FD := fnOf 3 1 false ev_length
def ev_agreement : DS → Option ES := evSeq (evAsg 5 (evMeth 3 0 F_Tide__spans_above [true, true, true] [] (evDefer 2 (evDefer 3 (evDefer 4 (evNil))))))
  (evSeq (evAsg 6 (evMeth 3 1 F_Tide__spans_above [true, true, true] [] (evDefer 2 (evDefer 3 (evDefer 4 (evNil))))))
  (evSeq (evAsg 7 (evCall F_length [false] [] (evCons false true (evCall F_meet_spans [true, true] [] (evDefer 5 (evDefer 6 (evNil)))) (evNil))))
  (evSeq (evAsg 8 (evCall F_length [false] [] (evCons false true (evCall F_meet_spans [false, false] [] (evCons false true (evCall F_turned [true, true, true] [] (evDefer 5 (evDefer 3 (evDefer 4 (evNil))))) (evCons false true (evCall F_turned [true, true, true] [] (evDefer 6 (evDefer 3 (evDefer 4 (evNil))))) (evNil)))) (evNil))))
  (evSeq (evRet (evOp gAdd (evDefer 7 (evCons true true (evVar 8) evNil))))
  (evNx)))))
def F_agreement : FD := fnOf 9 5 false ev_agreement
def bd_turns_of_0 : DS → Option ES := evSeq (evIfS (evTr blD (evOp gGt (evDefer 5 (evCons true true (evVar 2) evNil)))) (evSeq (evApp 4 (evTup [true, false] (evDefer 5 (evCons false true (evCst (.bl true)) (evNil)))))
  (evNx)) (evNx))
  (evSeq (evIfS (evTr blD (evOp gLt (evDefer 6 (evCons true true (evVar 3) evNil)))) (evSeq (evApp 4 (evTup [false, false] (evCons false true (evOp gAdd (evDefer 6 (evCons false true (evCst (.int 1)) evNil))) (evCons false true (evCst (.bl false)) (evNil)))))
  (evNx)) (evNx))
  (evNx))
def ev_turns_of : DS → Option ES := evSeq (evAsg 4 (evLst [] (evNil)))
  (evSeq (evFor (evSrc none false (evMeth 3 0 F_Tide__spans_above [true, true, true] [] (evDefer 1 (evDefer 2 (evDefer 3 (evNil)))))) (tgTup [5, 6]) bd_turns_of_0)
  (evSeq (evRet (evMv 4))
  (evNx)))
def F_turns_of : FD := fnOf 7 4 false ev_turns_of
def ev__law_cell : DS → Option ES := evSeq (evIfS (evTr blD (evOp gLt (evDefer 1 (evCons false true (evOp gLen (evDefer 0 (evNil))) evNil)))) (evSeq (evRet (evOp gAbs (evCons false true (evOp gIntOf (evCons false true (evOp gItem (evDefer 0 (evCons true true (evVar 1) evNil))) (evNil))) (evNil))))
  (evNx)) (evNx))
  (evSeq (evRet (evOp gAdd (evCons false true (evOp gMul (evCons false true (evCst (.int 37)) (evCons true true (evVar 1) evNil))) (evCons false true (evCst (.int 11)) evNil))))
  (evNx))
def F__law_cell : FD := fnOf 2 2 false ev__law_cell
def ev__law_take : DS → Option ES := evSeq (evIfS (evTr blD (evOp gGt (evCons false true (evOp gItem (evDefer 0 (evCons false true (evCst (.int 2)) evNil))) (evCons false true (evCst (.int 0)) evNil)))) (evSeq (evAsg 3 (evOp gMod (evCons false true (evOp gIntOf (evCons false true (evOp gItem (evDefer 0 (evCons false true (evCst (.int 2)) evNil))) (evNil))) (evCons true true (evVar 1) evNil))))
  (evSeq (evSet 0 (evOp gDiv (evCons false true (evOp gIntOf (evCons false true (evOp gItem (evDefer 0 (evCons false true (evCst (.int 2)) evNil))) (evNil))) (evCons true true (evVar 1) evNil))) (evCst (.int 2)))
  (evSeq (evRet (evMv 3))
  (evNx)))) (evNx))
  (evSeq (evAsg 2 (evCall F__law_cell [false, false] [] (evCons false true (evOp gItem (evDefer 0 (evCons false true (evCst (.int 0)) evNil))) (evCons false true (evOp gItem (evDefer 0 (evCons false true (evCst (.int 1)) evNil))) (evNil)))))
  (evSeq (evSet 0 (evOp gAdd (evCons false true (evOp gItem (evDefer 0 (evCons false true (evCst (.int 1)) evNil))) (evCons false true (evCst (.int 1)) evNil))) (evCst (.int 1)))
  (evSeq (evIfS (evTr blD (evOp gGe (evDefer 2 (evCons false true (evOp gPow (evCons false true (evCst (.int 10)) (evCons false true (evCst (.int 9)) evNil))) evNil)))) (evSeq (evSet 0 (evOp gDiv (evCons false true (evOp gIntOf (evDefer 2 (evNil))) (evCons true true (evVar 1) evNil))) (evCst (.int 2)))
  (evNx)) (evNx))
  (evSeq (evRet (evOp gMod (evCons false true (evOp gIntOf (evDefer 2 (evNil))) (evCons true true (evVar 1) evNil))))
  (evNx)))))
def F__law_take : FD := fnOf 4 2 true ev__law_take
def bd__law_points_0 : DS → Option ES := evSeq (evApp 3 (evTup [true, false] (evDefer 4 (evCons false true (evOp gAdd (evCons false false (evOp gItem (evCons false false (evLst [false, false, false, false, false, false, false] (evCons false true (evCst (.int 0)) (evCons false true (evCst (.int 3)) (evCons false true (evCst (.int 5)) (evCons false true (evCst (.int 9)) (evCons false true (evCst (.int 12)) (evCons false true (evCst (.int 40)) (evCons false true (evCst (.int 7)) (evNil))))))))) (evCons false true (evCallM F__law_take 0 [false] [] (evCons false true (evCst (.int 7)) (evNil))) evNil))) (evCons false true (evCallM F__law_take 0 [false] [] (evCons false true (evCst (.int 4)) (evNil))) evNil))) (evNil)))))
  (evSeq (evAsg 4 (evOp gAdd (evCons false false (evOp gAdd (evDefer 4 (evCons false true (evCst (.int 1)) evNil))) (evCons false true (evCallM F__law_take 0 [true] [] (evDefer 2 (evNil))) evNil))))
  (evNx))
def ev__law_points : DS → Option ES := evSeq (evAsg 3 (evLst [] (evNil)))
  (evSeq (evAsg 4 (evCallM F__law_take 0 [false] [] (evCons false true (evCst (.int 5)) (evNil))))
  (evSeq (evFor (evRng rng1Of (evCons false true (evOp gAdd (evCons false false (evCst (.int 1)) (evCons false true (evCallM F__law_take 0 [true] [] (evDefer 1 (evNil))) evNil))) (evNil))) (tgName 5) bd__law_points_0)
  (evSeq (evRet (evMv 3))
  (evNx))))
def F__law_points : FD := fnOf 6 3 true ev__law_points
def bd__law_height_0 : DS → Option ES := evSeq (evIfS (evTr blD (evChain gLe gLt (evOp gItem (evCons false true (evOp gItem (evDefer 0 (evCons false true (evOp gSub (evDefer 2 (evCons false true (evCst (.int 1)) evNil))) evNil))) (evCons false true (evCst (.int 0)) evNil))) (evVar 1) (evOp gItem (evCons false true (evOp gItem (evDefer 0 (evCons true true (evVar 2) evNil))) (evCons false true (evCst (.int 0)) evNil))))) (evSeq (evAsg 3 (evOp gSub (evCons false true (evOp gItem (evCons false true (evOp gItem (evDefer 0 (evCons true true (evVar 2) evNil))) (evCons false true (evCst (.int 1)) evNil))) (evCons false true (evOp gItem (evCons false true (evOp gItem (evDefer 0 (evCons false true (evOp gSub (evDefer 2 (evCons false true (evCst (.int 1)) evNil))) evNil))) (evCons false true (evCst (.int 1)) evNil))) evNil))))
  (evSeq (evRet (evOp gAdd (evCons false true (evOp gItem (evCons false true (evOp gItem (evDefer 0 (evCons false true (evOp gSub (evDefer 2 (evCons false true (evCst (.int 1)) evNil))) evNil))) (evCons false true (evCst (.int 1)) evNil))) (evCons false true (evOp gDiv (evCons false true (evOp gMul (evDefer 3 (evCons false true (evOp gSub (evDefer 1 (evCons false true (evOp gItem (evCons false true (evOp gItem (evDefer 0 (evCons false true (evOp gSub (evDefer 2 (evCons false true (evCst (.int 1)) evNil))) evNil))) (evCons false true (evCst (.int 0)) evNil))) evNil))) evNil))) (evCons false true (evOp gSub (evCons false true (evOp gItem (evCons false true (evOp gItem (evDefer 0 (evCons true true (evVar 2) evNil))) (evCons false true (evCst (.int 0)) evNil))) (evCons false true (evOp gItem (evCons false true (evOp gItem (evDefer 0 (evCons false true (evOp gSub (evDefer 2 (evCons false true (evCst (.int 1)) evNil))) evNil))) (evCons false true (evCst (.int 0)) evNil))) evNil))) evNil))) evNil))))
  (evNx))) (evNx))
  (evNx)
def ev__law_height : DS → Option ES := evSeq (evIfS (evTr blD (evOp gLe (evDefer 1 (evCons false true (evOp gItem (evCons false true (evOp gItem (evDefer 0 (evCons false true (evCst (.int 0)) evNil))) (evCons false true (evCst (.int 0)) evNil))) evNil)))) (evSeq (evRet (evOp gItem (evCons false true (evOp gItem (evDefer 0 (evCons false true (evCst (.int 0)) evNil))) (evCons false true (evCst (.int 1)) evNil))))
  (evNx)) (evNx))
  (evSeq (evFor (evRng rng2Of (evCons false true (evCst (.int 1)) (evCons false true (evOp gLen (evDefer 0 (evNil))) (evNil)))) (tgName 2) bd__law_height_0)
  (evSeq (evRet (evOp gItem (evCons false true (evOp gItem (evDefer 0 (evCons false true (evOp gNeg (evCons false true (evCst (.int 1)) evNil)) evNil))) (evCons false true (evCst (.int 1)) evNil))))
  (evNx)))
def F__law_height : FD := fnOf 4 2 false ev__law_height
def bd__law_of_0 : DS → Option ES := evSeq (evIfS (evAndT (evTr blD (evOp gNe (evDefer 1 (evCons false true (evLst [] (evNil)) evNil)))) (evTr blD (evOp gLe (evDefer 2 (evCons false true (evOp gAdd (evCons false true (evOp gItem (evCons false true (evOp gItem (evDefer 1 (evCons false true (evOp gNeg (evCons false true (evCst (.int 1)) evNil)) evNil))) (evCons false true (evCst (.int 1)) evNil))) (evCons false true (evCst (.int 1)) evNil))) evNil))))) (evSeq (evSet 1 (evTup [false, true] (evCons false true (evOp gItem (evCons false true (evOp gItem (evDefer 1 (evCons false true (evOp gNeg (evCons false true (evCst (.int 1)) evNil)) evNil))) (evCons false true (evCst (.int 0)) evNil))) (evDefer 2 (evNil)))) (evOp gNeg (evCons false true (evCst (.int 1)) evNil)))
  (evNx)) (evSeq (evApp 1 (evTup [true, true] (evDefer 2 (evDefer 2 (evNil)))))
  (evNx)))
  (evNx)
def ev__law_of : DS → Option ES := evSeq (evAsg 1 (evLst [] (evNil)))
  (evSeq (evFor (evSrc none false (evOp gSorted (evDefer 0 (evNil)))) (tgName 2) bd__law_of_0)
  (evSeq (evRet (evMv 1))
  (evNx)))
def F__law_of : FD := fnOf 3 1 false ev__law_of
def ct_law_0 : DS → Option EB := evYes
def ce_law_1 : DS → Option ER := evCall F__law_height [true, true] [] (evDefer 2 (evDefer 18 (evNil)))
def ct_law_2 : DS → Option EB := evYes
def ce_law_3 : DS → Option ER := evMeth 3 4 F_Tide__height [true] [] (evDefer 18 (evNil))
def ct_law_4 : DS → Option EB := evTr blD (evOp gGe (evCons false true (evCall F__law_height [true, true] [] (evDefer 2 (evDefer 18 (evNil)))) (evCons true true (evVar 9) evNil)))
def ce_law_5 : DS → Option ER := evFv 18
def ct_law_6 : DS → Option EB := evTr blD (evOp gLt (evCons false true (evOp gItem (evDefer 19 (evCons false true (evCst (.int 1)) evNil))) (evCons true true (evVar 11) evNil)))
def ce_law_7 : DS → Option ER := evTup [false, false] (evCons false true (evOp gAdd (evCons false true (evOp gItem (evDefer 19 (evCons false true (evCst (.int 1)) evNil))) (evCons false true (evCst (.int 1)) evNil))) (evCons false true (evCst (.bl false)) (evNil)))
def ct_law_8 : DS → Option EB := evTr blD (evOp gGt (evCons false true (evOp gItem (evDefer 19 (evCons false true (evCst (.int 0)) evNil))) (evCons true true (evVar 10) evNil)))
def ce_law_9 : DS → Option ER := evTup [false, false] (evCons false true (evOp gItem (evDefer 19 (evCons false true (evCst (.int 0)) evNil))) (evCons false true (evCst (.bl true)) (evNil)))
def ct_law_10 : DS → Option EB := evYes
def ce_law_11 : DS → Option ER := evCall F__law_height [true, true] [] (evDefer 2 (evDefer 18 (evNil)))
def ct_law_12 : DS → Option EB := evTr blD (evOp gGt (evCons false true (evCall F__law_height [true, false] [] (evDefer 2 (evCons false true (evOp gAdd (evDefer 18 (evCons false true (evCst (.int 1)) evNil))) (evNil)))) (evCons false true (evCall F__law_height [true, true] [] (evDefer 2 (evDefer 18 (evNil)))) evNil)))
def ce_law_13 : DS → Option ER := evFv 18
def ct_law_14 : DS → Option EB := evTr blD (evOp gLt (evCons false true (evCall F__law_height [true, false] [] (evDefer 2 (evCons false true (evOp gAdd (evDefer 18 (evCons false true (evCst (.int 1)) evNil))) (evNil)))) (evCons false true (evCall F__law_height [true, true] [] (evDefer 2 (evDefer 18 (evNil)))) evNil)))
def ce_law_15 : DS → Option ER := evFv 18
def ct_law_16 : DS → Option EB := evTr blD (evOp gEq (evCons false true (evOp gGe (evCons false true (evCall F__law_height [true, true] [] (evDefer 2 (evDefer 18 (evNil)))) (evCons true true (evVar 9) evNil))) (evCons false true (evOp gGe (evCons false true (evCall F__law_height [true, true] [] (evDefer 5 (evDefer 18 (evNil)))) (evCons true true (evVar 9) evNil))) evNil)))
def ce_law_17 : DS → Option ER := evFv 18
def bd_law_18 : DS → Option ES := evSeq (evAsg 9 (evCallM F__law_take 1 [false] [] (evCons false true (evCst (.int 45)) (evNil))))
  (evSeq (evAsg 10 (evCallM F__law_take 1 [false] [] (evCons false true (evCst (.int 40)) (evNil))))
  (evSeq (evAsg 11 (evOp gAdd (evDefer 10 (evCons false true (evCallM F__law_take 1 [false] [] (evCons false true (evCst (.int 40)) (evNil))) evNil))))
  (evSeq (evAsg 12 (evLc (evRng rng2Of (evDefer 10 (evCons false true (evOp gAdd (evDefer 11 (evCons false true (evCst (.int 1)) evNil))) (evNil)))) (tgName 18) ct_law_4 ce_law_5 [18]))
  (evSeq (evIfS (evTr blD (evOp gNe (evCons false true (evMeth 3 4 F_Tide__spans_above [true, true, true] [] (evDefer 9 (evDefer 10 (evDefer 11 (evNil))))) (evCons false true (evCall F__law_of [true] [] (evDefer 12 (evNil))) evNil)))) (evSeq (evRet (evCst (.bl false)))
  (evNx)) (evNx))
  (evSeq (evAsg 13 (evOp gAdd (evCons false false (evLc (evSrc none false (evCall F__law_of [true] [] (evDefer 12 (evNil)))) (tgName 19) ct_law_8 ce_law_9 [19]) (evCons false true (evLc (evSrc none false (evCall F__law_of [true] [] (evDefer 12 (evNil)))) (tgName 19) ct_law_6 ce_law_7 [19]) evNil))))
  (evSeq (evIfS (evTr blD (evOp gNe (evCons false true (evCall F_turns_of [true, true, true, true] [] (evDefer 4 (evDefer 9 (evDefer 10 (evDefer 11 (evNil)))))) (evCons false true (evOp gSorted (evDefer 13 (evNil))) evNil)))) (evSeq (evRet (evCst (.bl false)))
  (evNx)) (evNx))
  (evSeq (evAsg 14 (evLc (evRng rng2Of (evDefer 10 (evCons false true (evOp gAdd (evDefer 11 (evCons false true (evCst (.int 1)) evNil))) (evNil)))) (tgName 18) ct_law_10 ce_law_11 [18]))
  (evSeq (evIfS (evTr blD (evOp gNe (evCons false true (evMeth 3 4 F_Tide__highest [true, true] [] (evDefer 10 (evDefer 11 (evNil)))) (evCons false true (evOp gAdd (evDefer 10 (evCons false true (evOp gIndex (evCons true true (evGuard isLst1 (evVar 14)) (evCons false true (evOp gMax1 (evDefer 14 (evNil))) evNil))) evNil))) evNil)))) (evSeq (evRet (evCst (.bl false)))
  (evNx)) (evNx))
  (evSeq (evAsg 15 (evLc (evRng rng2Of (evDefer 10 (evCons false true (evOp gAdd (evDefer 11 (evCons false true (evCst (.int 1)) evNil))) (evNil)))) (tgName 18) ct_law_12 ce_law_13 [18]))
  (evSeq (evAsg 16 (evLc (evRng rng2Of (evDefer 10 (evCons false true (evOp gAdd (evDefer 11 (evCons false true (evCst (.int 1)) evNil))) (evNil)))) (tgName 18) ct_law_14 ce_law_15 [18]))
  (evSeq (evIfS (evOrT (evTr blD (evOp gNe (evCons false true (evCall F_flood [true, true, true] [] (evDefer 4 (evDefer 10 (evDefer 11 (evNil))))) (evCons false true (evCall F__law_of [true] [] (evDefer 15 (evNil))) evNil)))) (evTr blD (evOp gNe (evCons false true (evCall F_ebb [true, true, true] [] (evDefer 4 (evDefer 10 (evDefer 11 (evNil))))) (evCons false true (evCall F__law_of [true] [] (evDefer 16 (evNil))) evNil))))) (evSeq (evRet (evCst (.bl false)))
  (evNx)) (evNx))
  (evSeq (evAsg 17 (evLc (evRng rng2Of (evDefer 10 (evCons false true (evOp gAdd (evDefer 11 (evCons false true (evCst (.int 1)) evNil))) (evNil)))) (tgName 18) ct_law_16 ce_law_17 [18]))
  (evSeq (evIfS (evTr blD (evOp gNe (evCons false true (evCall F_agreement [true, true, true, true, true] [] (evDefer 4 (evDefer 6 (evDefer 9 (evDefer 10 (evDefer 11 (evNil))))))) (evCons false true (evOp gLen (evDefer 17 (evNil))) evNil)))) (evSeq (evRet (evCst (.bl false)))
  (evNx)) (evNx))
  (evNx))))))))))))))
def ct_law_19 : DS → Option EB := evYes
def ce_law_20 : DS → Option ER := evTup [false, false] (evCons false true (evOp gAdd (evDefer 18 (evCons false true (evCst (.int 7)) evNil))) (evCons false true (evOp gAdd (evDefer 20 (evCons false true (evCst (.int 2)) evNil))) (evNil)))
def ev_law : DS → Option ES := evSeq (evAsg 1 (evLst [true, false, false] (evDefer 0 (evCons false true (evCst (.int 0)) (evCons false true (evCst (.int 0)) (evNil))))))
  (evSeq (evAsg 2 (evCallM F__law_points 1 [false, false] [] (evCons false true (evCst (.int 6)) (evCons false true (evCst (.int 12)) (evNil)))))
  (evSeq (evAsg 3 (evOp gList (evDefer 2 (evNil))))
  (evSeq (evAsg 4 (evMake 3 F_Tide____init__ [true] [] (evDefer 3 (evNil))))
  (evSeq (evApp 3 (evTup [false, false] (evCons false true (evCst (.int 5)) (evCons false true (evCst (.int 5)) (evNil)))))
  (evSeq (evAsg 5 (evCallM F__law_points 1 [false, false] [] (evCons false true (evCst (.int 6)) (evCons false true (evCst (.int 12)) (evNil)))))
  (evSeq (evAsg 6 (evMake 3 F_Tide____init__ [true] [] (evDefer 5 (evNil))))
  (evSeq (evIfS (evOrT (evTr blD (evOp gNe (evCons false true (evMeth 3 4 F_Tide__points [] [] (evNil)) (evCons true true (evVar 2) evNil)))) (evTr blD (evOp gNe (evCons false false (evLc (evRng rng1Of (evCons false true (evCst (.int 80)) (evNil))) (tgName 18) ct_law_2 ce_law_3 [18]) (evCons false true (evLc (evRng rng1Of (evCons false true (evCst (.int 80)) (evNil))) (tgName 18) ct_law_0 ce_law_1 [18]) evNil))))) (evSeq (evRet (evCst (.bl false)))
  (evNx)) (evNx))
  (evSeq (evFor (evRng rng1Of (evCons false true (evCst (.int 3)) (evNil))) (tgName 7) bd_law_18)
  (evSeq (evAsg 8 (evCall F_moved [true, false, false] [] (evDefer 4 (evCons false true (evCst (.int 7)) (evCons false true (evCst (.int 2)) (evNil))))))
  (evSeq (evIfS (evOrT (evTr blD (evOp gNe (evCons false false (evMeth 3 8 F_Tide__points [] [] (evNil)) (evCons false true (evLc (evSrc (some 2) true (evVar 2)) (tgTup [18, 20]) ct_law_19 ce_law_20 [18, 20]) evNil)))) (evTr blD (evOp gNe (evCons false true (evOp gRepr (evCons false true (evOp (gEqI 3 F_Tide____eq__) (evDefer 4 (evCons true true (evVar 6) evNil))) (evNil))) (evCons false true (evOp gRepr (evCons false true (evOp gEq (evDefer 2 (evCons true true (evVar 5) evNil))) (evNil))) evNil))))) (evSeq (evRet (evCst (.bl false)))
  (evNx)) (evNx))
  (evSeq (evRet (evAndV (evOp (gEqI 3 F_Tide____eq__) (evDefer 4 (evCons false true (evMake 3 F_Tide____init__ [false] [] (evCons false true (evOp gList (evDefer 2 (evNil))) (evNil))) evNil))) (evAndV (evNotV (evOp (gEqI 3 F_Tide____eq__) (evDefer 4 (evCons false true (evCst (.int 5)) evNil)))) (evOpq false (evOp gEq (evCons false true (evMeth 3 8 F_Tide__height [false] [] (evCons false true (evCst (.int 30)) (evNil))) (evCons false true (evOp gAdd (evCons false true (evCall F__law_height [true, false] [] (evDefer 2 (evCons false true (evCst (.int 23)) (evNil)))) (evCons false true (evCst (.int 2)) evNil))) evNil)))))))
  (evNx))))))))))))
def F_law : FD := fnOf 21 1 false ev_law
end K13
namespace K13
open PySem L2 PD PyProof.Rows
def top (i : Nat) : Stmt := PySem.Challenge.pw_overbar_k13_water_that_is_high_enough.main.body.getD i (.Pass ⟨0, 0, 0, 0⟩)
abbrev s_Tide__points : Stmt := (clsBd (top 17)).getD 1 (.Pass ⟨0, 0, 0, 0⟩)
def N_Tide__points : List Str := [Str.ofString "self"]
theorem nd_Tide__points : N_Tide__points.Nodup := by decide +kernel
theorem b_Tide__points {E : En} {G : GC} (hG : G.K = E.K) (m_list : E.mg (Str.ofString "list") = none) (a_Tide__points : At1 E G 3 0 (Str.ofString "_points")) : JSs E G (fnPl N_Tide__points 0 (defScope s_Tide__points)) 1 [] (defBody s_Tide__points) ev_Tide__points :=
  ss_cons (s_ret (j_ty hG ok_list (by decide +kernel) m_list (by decide +kernel) (j_cons (j_attr hG a_Tide__points (j_var (by decide +kernel))) (j_nil))))
  (ss_nil)
theorem sc_Tide__points : FnScope N_Tide__points [Str.ofString "self"] (defScope s_Tide__points) := ⟨rfl, rfl, rfl, by decide +kernel, rfl, by decide +kernel, by decide +kernel⟩
abbrev s_Tide____eq__ : Stmt := (clsBd (top 17)).getD 8 (.Pass ⟨0, 0, 0, 0⟩)
def N_Tide____eq__ : List Str := [Str.ofString "self", Str.ofString "other"]
theorem nd_Tide____eq__ : N_Tide____eq__.Nodup := by decide +kernel
theorem b_Tide____eq__ {E : En} {G : GC} (hG : G.K = E.K) (m_isinstance : E.mg (Str.ofString "isinstance") = none) (y_Tide : E.mg (Str.ofString "Tide") = some (.ref (G.cls 3))) (i_Tide : IsInsOk E.K G [(3, true)] 3) (c_Tide__points : FdM E G 3 (Str.ofString "points") 1 F_Tide__points []) : JSs E G (fnPl N_Tide____eq__ 1 (defScope s_Tide____eq__)) 2 [] (defBody s_Tide____eq__) ev_Tide____eq__ :=
  ss_cons (s_ret (j_andV (j_isC hG rfl (by decide +kernel) m_isinstance (by decide +kernel) y_Tide i_Tide (j_var (by decide +kernel))) (j_one (j_opq (j_cmp hG ok_eq (.cc (j_meth0 c_Tide__points (by decide) (by decide +kernel) (by exact fun _ => rfl)) (j_meth0 c_Tide__points (by decide) (by decide +kernel) (by exact fun _ => rfl)) (by decide) (by decide)))))))
  (ss_nil)
theorem sc_Tide____eq__ : FnScope N_Tide____eq__ [Str.ofString "self", Str.ofString "other"] (defScope s_Tide____eq__) := ⟨rfl, rfl, rfl, by decide +kernel, rfl, by decide +kernel, by decide +kernel⟩
abbrev s__between : Stmt := top 18
def N__between : List Str := [Str.ofString "one", Str.ofString "other", Str.ofString "minute", Str.ofString "rise"]
theorem nd__between : N__between.Nodup := by decide +kernel
theorem b__between {E : En} {G : GC} (hG : G.K = E.K) : JSs E G (fnPl N__between 0 (defScope s__between)) 4 [] (defBody s__between) ev__between :=
  ss_cons (s_asg (by decide +kernel) (by exact nd__between) (by decide) (by decide) (j_bin hG ok_sub (.cc (j_ix hG ok_item (.dc (by decide +kernel) (j_int) (by decide))) (j_ix hG ok_item (.dc (by decide +kernel) (j_int) (by decide))) (by decide) (by decide))))
  (ss_cons (s_ret (j_bin hG ok_add (.cc (j_ix hG ok_item (.dc (by decide +kernel) (j_int) (by decide))) (j_bin hG ok_div (.cc (j_bin hG ok_mul (.dc (by decide +kernel) (j_bin hG ok_sub (.dc (by decide +kernel) (j_ix hG ok_item (.dc (by decide +kernel) (j_int) (by decide))) (by decide))) (by decide))) (j_bin hG ok_sub (.cc (j_ix hG ok_item (.dc (by decide +kernel) (j_int) (by decide))) (j_ix hG ok_item (.dc (by decide +kernel) (j_int) (by decide))) (by decide) (by decide))) (by decide) (by decide))) (by decide) (by decide))))
  (ss_nil))
theorem sc__between : FnScope N__between [Str.ofString "one", Str.ofString "other", Str.ofString "minute"] (defScope s__between) := ⟨rfl, rfl, rfl, by decide +kernel, rfl, by decide +kernel, by decide +kernel⟩
abbrev s_Tide__height : Stmt := (clsBd (top 17)).getD 2 (.Pass ⟨0, 0, 0, 0⟩)
def N_Tide__height : List Str := [Str.ofString "self", Str.ofString "minute", Str.ofString "before", Str.ofString "point"]
theorem nd_Tide__height : N_Tide__height.Nodup := by decide +kernel
theorem b_Tide__height {E : En} {G : GC} (hG : G.K = E.K) (a_Tide__points : At1 E G 3 0 (Str.ofString "_points")) (c__between : Fd E G (Str.ofString "_between") 1 F__between []) : JSs E G (fnPl N_Tide__height 1 (defScope s_Tide__height)) 4 [] (defBody s_Tide__height) ev_Tide__height :=
  ss_cons (s_asg (by decide +kernel) (by exact nd_Tide__height) (by decide) (by decide) (j_ix hG ok_item (.cc (j_attr hG a_Tide__points (j_var (by decide +kernel))) (j_int) (by decide) (by decide))))
  (ss_cons (s_for (pn' := []) (j_src hG (j_attr hG a_Tide__points (j_var (by decide +kernel)))) rt_src (fun _ h => nomatch h) (by decide) (j_tg (by decide +kernel) (by exact nd_Tide__height) (by decide) (by decide)) (ss_cons (s_if (j_tcmp hG ok_gt (.cc (j_ix hG ok_item (.dc (by decide +kernel) (j_int) (by decide))) (j_var (by decide +kernel)) (by decide) (by decide))) (ss_cons (s_if (j_tcmp hG ok_gt (.cc (j_ix hG ok_item (.dc (by decide +kernel) (j_int) (by decide))) (j_var (by decide +kernel)) (by decide) (by decide))) (ss_cons (s_ret (j_ix hG ok_item (.dc (by decide +kernel) (j_int) (by decide))))
  (ss_nil)) (ss_nil))
  (ss_cons (s_ret (j_own c__between (by decide) (by decide +kernel) (j_dfr (by decide +kernel) (j_dfr (by decide +kernel) (j_dfr (by decide +kernel) (j_nil))))))
  (ss_nil))) (ss_nil))
  (ss_cons (s_asg (by decide +kernel) (by exact nd_Tide__height) (by decide) (by decide) (j_fv (by decide +kernel)))
  (ss_nil))))
  (ss_cons (s_ret (j_ix hG ok_item (.dc (by decide +kernel) (j_int) (by decide))))
  (ss_nil)))
theorem sc_Tide__height : FnScope N_Tide__height [Str.ofString "self", Str.ofString "minute"] (defScope s_Tide__height) := ⟨rfl, rfl, rfl, by decide +kernel, rfl, by decide +kernel, by decide +kernel⟩
abbrev s_tidy : Stmt := top 12
def N_tidy : List Str := [Str.ofString "spans", Str.ofString "found", Str.ofString "begin", Str.ofString "end"]
theorem nd_tidy : N_tidy.Nodup := by decide +kernel
theorem b_tidy {E : En} {G : GC} (hG : G.K = E.K) (m_max : E.mg (Str.ofString "max") = none) (m_sorted : E.mg (Str.ofString "sorted") = none) : JSs E G (fnPl N_tidy 0 (defScope s_tidy)) 4 [] (defBody s_tidy) ev_tidy :=
  ss_cons (s_asg (by decide +kernel) (by exact nd_tidy) (by decide) (by decide) (j_lst (j_nil)))
  (ss_cons (s_for (pn' := []) (j_src hG (j_bi hG ok_sorted (by decide +kernel) m_sorted (by decide +kernel) (j_dfr (by decide +kernel) (j_nil)))) rt_src (fun _ h => nomatch h) (by decide) (j_tgt hG (j_ns (by decide +kernel) (by exact nd_tidy) (by decide) (by decide) (j_ns (by decide +kernel) (by exact nd_tidy) (by decide) (by decide) (j_ns0)))) (ss_cons (s_if (j_w (j_wand (j_tval hG (j_var (by decide +kernel))) (j_wa1 (j_tcmp hG ok_le (.dc (by decide +kernel) (j_bin hG ok_add (.cc (j_ix hG ok_item (.cc (j_ix hG ok_item (.dc (by decide +kernel) (j_un hG ok_neg (j_int)) (by decide))) (j_int) (by decide) (by decide))) (j_int) (by decide) (by decide))) (by decide)))))) (ss_cons (s_set hG (by decide +kernel) (j_tup (j_cons (j_ix hG ok_item (.cc (j_ix hG ok_item (.dc (by decide +kernel) (j_un hG ok_neg (j_int)) (by decide))) (j_int) (by decide) (by decide))) (j_cons (j_biC hG ok_max2 (by decide +kernel) m_max (by decide +kernel) (j_cons (j_ix hG ok_item (.cc (j_ix hG ok_item (.dc (by decide +kernel) (j_un hG ok_neg (j_int)) (by decide))) (j_int) (by decide) (by decide))) (j_dfr (by decide +kernel) (j_nil)))) (j_nil)))) (j_un hG ok_neg (j_int)))
  (ss_nil)) (ss_cons (s_app hG (by decide +kernel) (j_tup (j_dfr (by decide +kernel) (j_dfr (by decide +kernel) (j_nil)))))
  (ss_nil)))
  (ss_nil)))
  (ss_cons (s_ret (j_mv (by decide +kernel)))
  (ss_nil)))
theorem sc_tidy : FnScope N_tidy [Str.ofString "spans"] (defScope s_tidy) := ⟨rfl, rfl, rfl, by decide +kernel, rfl, by decide +kernel, by decide +kernel⟩
abbrev s_Tide___turn : Stmt := (clsBd (top 17)).getD 6 (.Pass ⟨0, 0, 0, 0⟩)
def N_Tide___turn : List Str := [Str.ofString "self", Str.ofString "level", Str.ofString "first", Str.ofString "last", Str.ofString "rises", Str.ofString "middle"]
theorem nd_Tide___turn : N_Tide___turn.Nodup := by decide +kernel
theorem b_Tide___turn {E : En} {G : GC} (hG : G.K = E.K) (c_Tide__height : FdM E G 3 (Str.ofString "height") 2 F_Tide__height []) : JSs E G (fnPl N_Tide___turn 2 (defScope s_Tide___turn)) 6 [] (defBody s_Tide___turn) ev_Tide___turn :=
  ss_cons (s_whl 1000000 (j_tcmp hG ok_gt (.cc (j_bin hG ok_sub (.dc (by decide +kernel) (j_var (by decide +kernel)) (by decide))) (j_int) (by decide) (by decide))) (ss_cons (s_asg (by decide +kernel) (by exact nd_Tide___turn) (by decide) (by decide) (j_bin hG ok_div (.cc (j_bin hG ok_add (.dc (by decide +kernel) (j_var (by decide +kernel)) (by decide))) (j_int) (by decide) (by decide))))
  (ss_cons (s_if (j_tcmp hG ok_eq (.cc (j_cmp hG ok_ge (.cc (j_meth c_Tide__height (by decide) (by decide +kernel) (j_dfr (by decide +kernel) (j_nil)) (by exact fun _ => rfl)) (j_var (by decide +kernel)) (by decide) (by decide))) (j_var (by decide +kernel)) (by decide) (by decide))) (ss_cons (s_asg (by decide +kernel) (by exact nd_Tide___turn) (by decide) (by decide) (j_fv (by decide +kernel)))
  (ss_nil)) (ss_cons (s_asg (by decide +kernel) (by exact nd_Tide___turn) (by decide) (by decide) (j_fv (by decide +kernel)))
  (ss_nil)))
  (ss_nil))))
  (ss_cons (s_ret (j_if (j_tval hG (j_var (by decide +kernel))) (j_fv (by decide +kernel)) (j_fv (by decide +kernel))))
  (ss_nil))
theorem sc_Tide___turn : FnScope N_Tide___turn [Str.ofString "self", Str.ofString "level", Str.ofString "first", Str.ofString "last", Str.ofString "rises"] (defScope s_Tide___turn) := ⟨rfl, rfl, rfl, by decide +kernel, rfl, by decide +kernel, by decide +kernel⟩
abbrev s_Tide___piece : Stmt := (clsBd (top 17)).getD 5 (.Pass ⟨0, 0, 0, 0⟩)
def N_Tide___piece : List Str := [Str.ofString "self", Str.ofString "level", Str.ofString "first", Str.ofString "last", Str.ofString "low", Str.ofString "high"]
theorem nd_Tide___piece : N_Tide___piece.Nodup := by decide +kernel
theorem b_Tide___piece {E : En} {G : GC} (hG : G.K = E.K) (c_Tide___turn : FdM E G 3 (Str.ofString "_turn") 3 F_Tide___turn []) (c_Tide__height : FdM E G 3 (Str.ofString "height") 2 F_Tide__height []) : JSs E G (fnPl N_Tide___piece 3 (defScope s_Tide___piece)) 6 [] (defBody s_Tide___piece) ev_Tide___piece :=
  ss_cons (s_asg (by decide +kernel) (by exact nd_Tide___piece) (by decide) (by decide) (j_cmp hG ok_ge (.cc (j_meth c_Tide__height (by decide) (by decide +kernel) (j_dfr (by decide +kernel) (j_nil)) (by exact fun _ => rfl)) (j_var (by decide +kernel)) (by decide) (by decide))))
  (ss_cons (s_asg (by decide +kernel) (by exact nd_Tide___piece) (by decide) (by decide) (j_cmp hG ok_ge (.cc (j_meth c_Tide__height (by decide) (by decide +kernel) (j_dfr (by decide +kernel) (j_nil)) (by exact fun _ => rfl)) (j_var (by decide +kernel)) (by decide) (by decide))))
  (ss_cons (s_if (j_w (j_wand (j_tval hG (j_var (by decide +kernel))) (j_wa1 (j_tval hG (j_var (by decide +kernel)))))) (ss_cons (s_ret (j_tup (j_dfr (by decide +kernel) (j_dfr (by decide +kernel) (j_nil)))))
  (ss_nil)) (ss_nil))
  (ss_cons (s_if (j_w (j_wand (j_tnot (j_tval hG (j_var (by decide +kernel)))) (j_wa1 (j_tnot (j_tval hG (j_var (by decide +kernel))))))) (ss_cons (s_ret (j_non))
  (ss_nil)) (ss_nil))
  (ss_cons (s_if (j_tval hG (j_var (by decide +kernel))) (ss_cons (s_ret (j_tup (j_cons (j_meth c_Tide___turn (by decide) (by decide +kernel) (j_dfr (by decide +kernel) (j_dfr (by decide +kernel) (j_dfr (by decide +kernel) (j_cons (j_bl) (j_nil))))) (by exact fun _ => rfl)) (j_dfr (by decide +kernel) (j_nil)))))
  (ss_nil)) (ss_nil))
  (ss_cons (s_ret (j_tup (j_dfr (by decide +kernel) (j_cons (j_meth c_Tide___turn (by decide) (by decide +kernel) (j_dfr (by decide +kernel) (j_dfr (by decide +kernel) (j_dfr (by decide +kernel) (j_cons (j_bl) (j_nil))))) (by exact fun _ => rfl)) (j_nil)))))
  (ss_nil))))))
theorem sc_Tide___piece : FnScope N_Tide___piece [Str.ofString "self", Str.ofString "level", Str.ofString "first", Str.ofString "last"] (defScope s_Tide___piece) := ⟨rfl, rfl, rfl, by decide +kernel, rfl, by decide +kernel, by decide +kernel⟩
abbrev s_Tide__spans_above : Stmt := (clsBd (top 17)).getD 4 (.Pass ⟨0, 0, 0, 0⟩)
def N_Tide__spans_above : List Str := [Str.ofString "self", Str.ofString "level", Str.ofString "begin", Str.ofString "end", Str.ofString "cuts", Str.ofString "found", Str.ofString "k", Str.ofString "span", Str.ofString "point"]
theorem nd_Tide__spans_above : N_Tide__spans_above.Nodup := by decide +kernel
theorem b_Tide__spans_above {E : En} {G : GC} (hG : G.K = E.K) (m_len : E.mg (Str.ofString "len") = none) (m_range : E.mg (Str.ofString "range") = none) (m_sorted : E.mg (Str.ofString "sorted") = none) (a_Tide__points : At1 E G 3 0 (Str.ofString "_points")) (c_Tide___piece : FdM E G 3 (Str.ofString "_piece") 4 F_Tide___piece []) (c_tidy : Fd E G (Str.ofString "tidy") 1 F_tidy []) : JSs E G (fnPl N_Tide__spans_above 4 (defScope s_Tide__spans_above)) 9 [] (defBody s_Tide__spans_above) ev_Tide__spans_above :=
  ss_cons (s_asg (by decide +kernel) (by exact nd_Tide__spans_above) (by decide) (by decide) (j_bi hG ok_sorted (by decide +kernel) m_sorted (by decide +kernel) (j_cons (j_bin hG ok_add (.cc (j_lst (j_dfr (by decide +kernel) (j_cons (j_bin hG ok_add (.dc (by decide +kernel) (j_int) (by decide))) (j_nil)))) (JLc.pe (j_lcK (own := [(Str.ofString "point", 8)]) (by exact nd_Tide__spans_above) (by decide +kernel) (j_src hG (j_attr hG a_Tide__points (j_var (by decide +kernel)))) rt_src (fun _ h => nomatch h) (j_tg (by decide +kernel) (by exact nd_Tide__spans_above) (by decide) (by decide)) (j_tst (j_tchain hG ok_lt ok_le (j_var (by decide +kernel)) (j_ix hG ok_item (.dc (by decide +kernel) (j_int) (by decide))) (j_var (by decide +kernel)))) (j_ix hG ok_item (.dc (by decide +kernel) (j_int) (by decide))))) (by decide) (by decide))) (j_nil))))
  (ss_cons (s_asg (by decide +kernel) (by exact nd_Tide__spans_above) (by decide) (by decide) (j_lst (j_nil)))
  (ss_cons (s_for (pn' := []) (j_rng1 (by decide +kernel) m_range (j_cons (j_bin hG ok_sub (.cc (j_bi hG ok_len (by decide +kernel) m_len (by decide +kernel) (j_dfr (by decide +kernel) (j_nil))) (j_int) (by decide) (by decide))) (j_nil))) rt_rng (fun _ h => nomatch h) (by decide) (j_tg (by decide +kernel) (by exact nd_Tide__spans_above) (by decide) (by decide)) (ss_cons (s_asg (by decide +kernel) (by exact nd_Tide__spans_above) (by decide) (by decide) (j_meth c_Tide___piece (by decide) (by decide +kernel) (j_dfr (by decide +kernel) (j_cons (j_ix hG ok_item (.dc (by decide +kernel) (j_var (by decide +kernel)) (by decide))) (j_cons (j_bin hG ok_sub (.cc (j_ix hG ok_item (.dc (by decide +kernel) (j_bin hG ok_add (.dc (by decide +kernel) (j_int) (by decide))) (by decide))) (j_int) (by decide) (by decide))) (j_nil)))) (by exact fun _ => rfl)))
  (ss_cons (s_if (j_tcmp hG ok_isNot (.dc (by decide +kernel) (j_non) (by decide))) (ss_cons (s_app hG (by decide +kernel) (j_fv (by decide +kernel)))
  (ss_nil)) (ss_nil))
  (ss_nil))))
  (ss_cons (s_ret (j_own c_tidy (by decide) (by decide +kernel) (j_dfr (by decide +kernel) (j_nil))))
  (ss_nil))))
theorem sc_Tide__spans_above : FnScope N_Tide__spans_above [Str.ofString "self", Str.ofString "level", Str.ofString "begin", Str.ofString "end"] (defScope s_Tide__spans_above) := ⟨rfl, rfl, rfl, by decide +kernel, rfl, by decide +kernel, by decide +kernel⟩
abbrev s__first_as_high : Stmt := top 19
def N__first_as_high : List Str := [Str.ofString "tide", Str.ofString "begin", Str.ofString "minute", Str.ofString "best", Str.ofString "spans"]
theorem nd__first_as_high : N__first_as_high.Nodup := by decide +kernel
theorem b__first_as_high {E : En} {G : GC} (hG : G.K = E.K) (c_Tide__height : FdM E G 3 (Str.ofString "height") 2 F_Tide__height []) (c_Tide__spans_above : FdM E G 3 (Str.ofString "spans_above") 5 F_Tide__spans_above []) : JSs E G (fnPl N__first_as_high 5 (defScope s__first_as_high)) 5 [] (defBody s__first_as_high) ev__first_as_high :=
  ss_cons (s_asg (by decide +kernel) (by exact nd__first_as_high) (by decide) (by decide) (j_meth c_Tide__height (by decide) (by decide +kernel) (j_dfr (by decide +kernel) (j_nil)) (by exact fun _ => rfl)))
  (ss_cons (s_asg (by decide +kernel) (by exact nd__first_as_high) (by decide) (by decide) (j_meth c_Tide__spans_above (by decide) (by decide +kernel) (j_dfr (by decide +kernel) (j_dfr (by decide +kernel) (j_dfr (by decide +kernel) (j_nil)))) (by exact fun _ => rfl)))
  (ss_cons (s_ret (j_ix hG ok_item (.cc (j_ix hG ok_item (.dc (by decide +kernel) (j_int) (by decide))) (j_int) (by decide) (by decide))))
  (ss_nil)))
theorem sc__first_as_high : FnScope N__first_as_high [Str.ofString "tide", Str.ofString "begin", Str.ofString "minute"] (defScope s__first_as_high) := ⟨rfl, rfl, rfl, by decide +kernel, rfl, by decide +kernel, by decide +kernel⟩
abbrev s_Tide__highest : Stmt := (clsBd (top 17)).getD 3 (.Pass ⟨0, 0, 0, 0⟩)
def N_Tide__highest : List Str := [Str.ofString "self", Str.ofString "begin", Str.ofString "end", Str.ofString "best", Str.ofString "minute", Str.ofString "point"]
theorem nd_Tide__highest : N_Tide__highest.Nodup := by decide +kernel
theorem b_Tide__highest {E : En} {G : GC} (hG : G.K = E.K) (a_Tide__points : At1 E G 3 0 (Str.ofString "_points")) (c_Tide__height : FdM E G 3 (Str.ofString "height") 2 F_Tide__height []) (c__first_as_high : Fd E G (Str.ofString "_first_as_high") 6 F__first_as_high []) : JSs E G (fnPl N_Tide__highest 6 (defScope s_Tide__highest)) 6 [] (defBody s_Tide__highest) ev_Tide__highest :=
  ss_cons (s_asg (by decide +kernel) (by exact nd_Tide__highest) (by decide) (by decide) (j_fv (by decide +kernel)))
  (ss_cons (s_for (pn' := []) (j_src hG (j_bin hG ok_add (.cc (JLc.pe (j_lcK (own := [(Str.ofString "point", 5)]) (by exact nd_Tide__highest) (by decide +kernel) (j_src hG (j_attr hG a_Tide__points (j_var (by decide +kernel)))) rt_src (fun _ h => nomatch h) (j_tg (by decide +kernel) (by exact nd_Tide__highest) (by decide) (by decide)) (j_yes) (j_ix hG ok_item (.dc (by decide +kernel) (j_int) (by decide))))) (j_lst (j_dfr (by decide +kernel) (j_nil))) (by decide) (by decide)))) rt_src (fun _ h => nomatch h) (by decide) (j_tg (by decide +kernel) (by exact nd_Tide__highest) (by decide) (by decide)) (ss_cons (s_if (j_w (j_wand (j_tchain hG ok_le ok_le (j_var (by decide +kernel)) (j_var (by decide +kernel)) (j_var (by decide +kernel))) (j_wa1 (j_tcmp hG ok_gt (.cc (j_meth c_Tide__height (by decide) (by decide +kernel) (j_dfr (by decide +kernel) (j_nil)) (by exact fun _ => rfl)) (j_meth c_Tide__height (by decide) (by decide +kernel) (j_dfr (by decide +kernel) (j_nil)) (by exact fun _ => rfl)) (by decide) (by decide)))))) (ss_cons (s_asg (by decide +kernel) (by exact nd_Tide__highest) (by decide) (by decide) (j_fv (by decide +kernel)))
  (ss_nil)) (ss_nil))
  (ss_nil)))
  (ss_cons (s_ret (j_own c__first_as_high (by decide) (by decide +kernel) (j_dfr (by decide +kernel) (j_dfr (by decide +kernel) (j_dfr (by decide +kernel) (j_nil))))))
  (ss_nil)))
theorem sc_Tide__highest : FnScope N_Tide__highest [Str.ofString "self", Str.ofString "begin", Str.ofString "end"] (defScope s_Tide__highest) := ⟨rfl, rfl, rfl, by decide +kernel, rfl, by decide +kernel, by decide +kernel⟩
abbrev s_is_number : Stmt := top 7
def N_is_number : List Str := [Str.ofString "value", Str.ofString "least", Str.ofString "most"]
theorem nd_is_number : N_is_number.Nodup := by decide +kernel
theorem b_is_number {E : En} {G : GC} (hG : G.K = E.K) (m_bool : E.mg (Str.ofString "bool") = none) (m_int : E.mg (Str.ofString "int") = none) (m_isinstance : E.mg (Str.ofString "isinstance") = none) : JSs E G (fnPl N_is_number 0 (defScope s_is_number)) 3 [] (defBody s_is_number) ev_is_number :=
  ss_cons (s_if (j_w (j_wor (j_tval hG (j_isi hG rfl (by decide +kernel) m_isinstance (by decide +kernel) m_bool (by decide +kernel) (j_var (by decide +kernel)))) (j_wo1 (j_tnot (j_tval hG (j_isi hG rfl (by decide +kernel) m_isinstance (by decide +kernel) m_int (by decide +kernel) (j_var (by decide +kernel)))))))) (ss_cons (s_ret (j_bl))
  (ss_nil)) (ss_nil))
  (ss_cons (s_ret (j_chain hG ok_le ok_le (j_var (by decide +kernel)) (j_var (by decide +kernel)) (j_var (by decide +kernel))))
  (ss_nil))
theorem sc_is_number : FnScope N_is_number [Str.ofString "value", Str.ofString "least", Str.ofString "most"] (defScope s_is_number) := ⟨rfl, rfl, rfl, by decide +kernel, rfl, by decide +kernel, by decide +kernel⟩
abbrev s_checked_number : Stmt := top 8
def N_checked_number : List Str := [Str.ofString "value", Str.ofString "least", Str.ofString "most"]
theorem nd_checked_number : N_checked_number.Nodup := by decide +kernel
theorem b_checked_number {E : En} {G : GC} (hG : G.K = E.K) (m_str : E.mg (Str.ofString "str") = none) (x_InvalidNumber : ExF E G (Str.ofString "InvalidNumber") 1) (c_is_number : Fd E G (Str.ofString "is_number") 1 F_is_number []) : JSs E G (fnPl N_checked_number 1 (defScope s_checked_number)) 3 [] (defBody s_checked_number) ev_checked_number :=
  ss_cons (s_if (j_tnot (j_tval hG (j_own c_is_number (by decide) (by decide +kernel) (j_dfr (by decide +kernel) (j_dfr (by decide +kernel) (j_dfr (by decide +kernel) (j_nil))))))) (ss_cons (s_raise x_InvalidNumber (by decide +kernel) (j_cons (j_bin hG ok_add (.cc (j_bin hG ok_add (.cc (j_bin hG ok_add (.cc (j_str) (j_ty hG ok_str (by decide +kernel) m_str (by decide +kernel) (j_dfr (by decide +kernel) (j_nil))) (by decide) (by decide))) (j_str) (by decide) (by decide))) (j_ty hG ok_str (by decide +kernel) m_str (by decide +kernel) (j_dfr (by decide +kernel) (j_nil))) (by decide) (by decide))) (j_nil)))
  (ss_nil)) (ss_nil))
  (ss_cons (s_ret (j_mv (by decide +kernel)))
  (ss_nil))
theorem sc_checked_number : FnScope N_checked_number [Str.ofString "value", Str.ofString "least", Str.ofString "most"] (defScope s_checked_number) := ⟨rfl, rfl, rfl, by decide +kernel, rfl, by decide +kernel, by decide +kernel⟩
abbrev s_Tide____init__ : Stmt := (clsBd (top 17)).getD 0 (.Pass ⟨0, 0, 0, 0⟩)
def N_Tide____init__ : List Str := [Str.ofString "self", Str.ofString "points", Str.ofString "minute", Str.ofString "height"]
theorem nd_Tide____init__ : N_Tide____init__.Nodup := by decide +kernel
theorem b_Tide____init__ {E : En} {G : GC} (hG : G.K = E.K) (m_len : E.mg (Str.ofString "len") = none) (g_FARTHEST : ∃ u, E.mg (Str.ofString "FARTHEST") = some u ∧ RelV (.int 20000) u) (g_MOST : ∃ u, E.mg (Str.ofString "MOST") = some u ∧ RelV (.int 60) u) (x_InvalidNumber : ExF E G (Str.ofString "InvalidNumber") 1) (x_TooMany : ExF E G (Str.ofString "TooMany") 2) (a_Tide__points : At1 E G 3 0 (Str.ofString "_points")) (c_checked_number : Fd E G (Str.ofString "checked_number") 2 F_checked_number []) (c_checked_number_2 : Fd E G (Str.ofString "checked_number") 2 F_checked_number [.int 0, .int 1000000]) : JSs E G (fnPl N_Tide____init__ 2 (defScope s_Tide____init__)) 4 [0] (defBody s_Tide____init__) ev_Tide____init__ :=
  ss_cons (s_if (j_tnot (j_tval hG (j_var (by decide +kernel)))) (ss_cons (s_raise x_InvalidNumber (by decide +kernel) (j_cons (j_str) (j_nil)))
  (ss_nil)) (ss_nil))
  (ss_cons (s_if (j_tcmp hG ok_gt (.cc (j_bi hG ok_len (by decide +kernel) m_len (by decide +kernel) (j_dfr (by decide +kernel) (j_nil))) (j_glob (by decide +kernel) g_MOST.choose_spec.1 g_MOST.choose_spec.2 (fun _ _ => .int _)) (by decide) (by decide))) (ss_cons (s_raise x_TooMany (by decide +kernel) (j_cons (j_str) (j_nil)))
  (ss_nil)) (ss_nil))
  (ss_cons (s_setF hG a_Tide__points (by decide +kernel) (j_lst (j_nil)))
  (ss_cons (s_for (pn' := [0, 1]) (j_srcV hG (by decide +kernel)) rt_src (fun i h => by cases h; decide) (by decide) (j_tgt hG (j_ns (by decide +kernel) (by exact nd_Tide____init__) (by decide) (by decide) (j_ns (by decide +kernel) (by exact nd_Tide____init__) (by decide) (by decide) (j_ns0)))) (ss_cons (s_expr (j_own c_checked_number (by decide) (by decide +kernel) (j_dfr (by decide +kernel) (j_cons (j_int) (j_cons (j_glob (by decide +kernel) g_FARTHEST.choose_spec.1 g_FARTHEST.choose_spec.2 (fun _ _ => .int _)) (j_nil))))))
  (ss_cons (s_expr (j_own c_checked_number_2 (by decide) (by decide +kernel) (j_dfr (by decide +kernel) (j_nil))))
  (ss_cons (s_if (j_w (j_wand (j_tval hG (j_attr hG a_Tide__points (j_var (by decide +kernel)))) (j_wa1 (j_tcmp hG ok_le (.dc (by decide +kernel) (j_ix hG ok_item (.cc (j_ix hG ok_item (.cc (j_attr hG a_Tide__points (j_var (by decide +kernel))) (j_un hG ok_neg (j_int)) (by decide) (by decide))) (j_int) (by decide) (by decide))) (by decide)))))) (ss_cons (s_raise x_InvalidNumber (by decide +kernel) (j_cons (j_str) (j_nil)))
  (ss_nil)) (ss_nil))
  (ss_cons (s_appF hG a_Tide__points (by decide +kernel) (j_hq (j_tup (j_dfr (by decide +kernel) (j_dfr (by decide +kernel) (j_nil))))))
  (ss_nil))))))
  (ss_nil))))
theorem sc_Tide____init__ : FnScope N_Tide____init__ [Str.ofString "self", Str.ofString "points"] (defScope s_Tide____init__) := ⟨rfl, rfl, rfl, by decide +kernel, rfl, by decide +kernel, by decide +kernel⟩
abbrev s_moved : Stmt := top 21
def N_moved : List Str := [Str.ofString "tide", Str.ofString "minutes", Str.ofString "height", Str.ofString "minute", Str.ofString "level"]
theorem nd_moved : N_moved.Nodup := by decide +kernel
theorem b_moved {E : En} {G : GC} (hG : G.K = E.K) (c_Tide____init__ : FdI E G (Str.ofString "Tide") 3 3 F_Tide____init__ []) (c_Tide__points : FdM E G 3 (Str.ofString "points") 1 F_Tide__points []) : JSs E G (fnPl N_moved 4 (defScope s_moved)) 5 [] (defBody s_moved) ev_moved :=
  ss_cons (s_ret (j_make c_Tide____init__ (by decide) (by decide +kernel) (j_cons (JLc.pe (j_lcK (own := [(Str.ofString "minute", 3), (Str.ofString "level", 4)]) (by exact nd_moved) (by decide +kernel) (j_src hG (j_meth0 c_Tide__points (by decide) (by decide +kernel) (by exact fun _ => rfl))) rt_src (fun _ h => nomatch h) (j_tgt hG (j_ns (by decide +kernel) (by exact nd_moved) (by decide) (by decide) (j_ns (by decide +kernel) (by exact nd_moved) (by decide) (by decide) (j_ns0)))) (j_yes) (j_tup (j_cons (j_bin hG ok_add (.dc (by decide +kernel) (j_var (by decide +kernel)) (by decide))) (j_cons (j_bin hG ok_add (.dc (by decide +kernel) (j_var (by decide +kernel)) (by decide))) (j_nil)))))) (j_nil))))
  (ss_nil)
theorem sc_moved : FnScope N_moved [Str.ofString "tide", Str.ofString "minutes", Str.ofString "height"] (defScope s_moved) := ⟨rfl, rfl, rfl, by decide +kernel, rfl, by decide +kernel, by decide +kernel⟩
abbrev s__spans_where : Stmt := top 24
def N__spans_where : List Str := [Str.ofString "tide", Str.ofString "begin", Str.ofString "end", Str.ofString "sign", Str.ofString "found", Str.ofString "minute"]
theorem nd__spans_where : N__spans_where.Nodup := by decide +kernel
theorem b__spans_where {E : En} {G : GC} (hG : G.K = E.K) (m_range : E.mg (Str.ofString "range") = none) (c_Tide__height : FdM E G 3 (Str.ofString "height") 2 F_Tide__height []) : JSs E G (fnPl N__spans_where 2 (defScope s__spans_where)) 6 [] (defBody s__spans_where) ev__spans_where :=
  ss_cons (s_asg (by decide +kernel) (by exact nd__spans_where) (by decide) (by decide) (j_lst (j_nil)))
  (ss_cons (s_for (pn' := []) (j_rng2 (by decide +kernel) m_range (j_dfr (by decide +kernel) (j_cons (j_bin hG ok_add (.dc (by decide +kernel) (j_int) (by decide))) (j_nil)))) rt_rng (fun _ h => nomatch h) (by decide) (j_tg (by decide +kernel) (by exact nd__spans_where) (by decide) (by decide)) (ss_cons (s_if (j_tcmp hG ok_gt (.cc (j_bin hG ok_mul (.dc (by decide +kernel) (j_bin hG ok_sub (.cc (j_meth c_Tide__height (by decide) (by decide +kernel) (j_cons (j_bin hG ok_add (.dc (by decide +kernel) (j_int) (by decide))) (j_nil)) (by exact fun _ => rfl)) (j_meth c_Tide__height (by decide) (by decide +kernel) (j_dfr (by decide +kernel) (j_nil)) (by exact fun _ => rfl)) (by decide) (by decide))) (by decide))) (j_int) (by decide) (by decide))) (ss_cons (s_if (j_w (j_wand (j_tval hG (j_var (by decide +kernel))) (j_wa1 (j_tcmp hG ok_eq (.cc (j_ix hG ok_item (.cc (j_ix hG ok_item (.dc (by decide +kernel) (j_un hG ok_neg (j_int)) (by decide))) (j_int) (by decide) (by decide))) (j_bin hG ok_sub (.dc (by decide +kernel) (j_int) (by decide))) (by decide) (by decide)))))) (ss_cons (s_set hG (by decide +kernel) (j_tup (j_cons (j_ix hG ok_item (.cc (j_ix hG ok_item (.dc (by decide +kernel) (j_un hG ok_neg (j_int)) (by decide))) (j_int) (by decide) (by decide))) (j_dfr (by decide +kernel) (j_nil)))) (j_un hG ok_neg (j_int)))
  (ss_nil)) (ss_cons (s_app hG (by decide +kernel) (j_tup (j_dfr (by decide +kernel) (j_dfr (by decide +kernel) (j_nil)))))
  (ss_nil)))
  (ss_nil)) (ss_nil))
  (ss_nil)))
  (ss_cons (s_ret (j_mv (by decide +kernel)))
  (ss_nil)))
theorem sc__spans_where : FnScope N__spans_where [Str.ofString "tide", Str.ofString "begin", Str.ofString "end", Str.ofString "sign"] (defScope s__spans_where) := ⟨rfl, rfl, rfl, by decide +kernel, rfl, by decide +kernel, by decide +kernel⟩
abbrev s_flood : Stmt := top 22
def N_flood : List Str := [Str.ofString "tide", Str.ofString "begin", Str.ofString "end"]
theorem nd_flood : N_flood.Nodup := by decide +kernel
theorem b_flood {E : En} {G : GC} (hG : G.K = E.K) (c__spans_where : Fd E G (Str.ofString "_spans_where") 3 F__spans_where []) : JSs E G (fnPl N_flood 3 (defScope s_flood)) 3 [] (defBody s_flood) ev_flood :=
  ss_cons (s_ret (j_own c__spans_where (by decide) (by decide +kernel) (j_dfr (by decide +kernel) (j_dfr (by decide +kernel) (j_dfr (by decide +kernel) (j_cons (j_int) (j_nil)))))))
  (ss_nil)
theorem sc_flood : FnScope N_flood [Str.ofString "tide", Str.ofString "begin", Str.ofString "end"] (defScope s_flood) := ⟨rfl, rfl, rfl, by decide +kernel, rfl, by decide +kernel, by decide +kernel⟩
abbrev s_ebb : Stmt := top 23
def N_ebb : List Str := [Str.ofString "tide", Str.ofString "begin", Str.ofString "end"]
theorem nd_ebb : N_ebb.Nodup := by decide +kernel
theorem b_ebb {E : En} {G : GC} (hG : G.K = E.K) (c__spans_where : Fd E G (Str.ofString "_spans_where") 3 F__spans_where []) : JSs E G (fnPl N_ebb 3 (defScope s_ebb)) 3 [] (defBody s_ebb) ev_ebb :=
  ss_cons (s_ret (j_own c__spans_where (by decide) (by decide +kernel) (j_dfr (by decide +kernel) (j_dfr (by decide +kernel) (j_dfr (by decide +kernel) (j_cons (j_un hG ok_neg (j_int)) (j_nil)))))))
  (ss_nil)
theorem sc_ebb : FnScope N_ebb [Str.ofString "tide", Str.ofString "begin", Str.ofString "end"] (defScope s_ebb) := ⟨rfl, rfl, rfl, by decide +kernel, rfl, by decide +kernel, by decide +kernel⟩
abbrev s_meet_spans : Stmt := top 11
def N_meet_spans : List Str := [Str.ofString "one", Str.ofString "other", Str.ofString "found", Str.ofString "begin", Str.ofString "end", Str.ofString "start", Str.ofString "stop", Str.ofString "low", Str.ofString "high"]
theorem nd_meet_spans : N_meet_spans.Nodup := by decide +kernel
theorem b_meet_spans {E : En} {G : GC} (hG : G.K = E.K) (m_max : E.mg (Str.ofString "max") = none) (m_min : E.mg (Str.ofString "min") = none) : JSs E G (fnPl N_meet_spans 0 (defScope s_meet_spans)) 9 [] (defBody s_meet_spans) ev_meet_spans :=
  ss_cons (s_asg (by decide +kernel) (by exact nd_meet_spans) (by decide) (by decide) (j_lst (j_nil)))
  (ss_cons (s_for (pn' := [0]) (j_srcV hG (by decide +kernel)) rt_src (fun i h => by cases h; decide) (by decide) (j_tgt hG (j_ns (by decide +kernel) (by exact nd_meet_spans) (by decide) (by decide) (j_ns (by decide +kernel) (by exact nd_meet_spans) (by decide) (by decide) (j_ns0)))) (ss_cons (s_for (pn' := [0, 1]) (j_srcV hG (by decide +kernel)) rt_src (fun i h => by cases h; decide) (by decide) (j_tgt hG (j_ns (by decide +kernel) (by exact nd_meet_spans) (by decide) (by decide) (j_ns (by decide +kernel) (by exact nd_meet_spans) (by decide) (by decide) (j_ns0)))) (ss_cons (s_asg (by decide +kernel) (by exact nd_meet_spans) (by decide) (by decide) (j_biC hG ok_max2 (by decide +kernel) m_max (by decide +kernel) (j_dfr (by decide +kernel) (j_dfr (by decide +kernel) (j_nil)))))
  (ss_cons (s_asg (by decide +kernel) (by exact nd_meet_spans) (by decide) (by decide) (j_biC hG ok_min2 (by decide +kernel) m_min (by decide +kernel) (j_dfr (by decide +kernel) (j_dfr (by decide +kernel) (j_nil)))))
  (ss_cons (s_if (j_tcmp hG ok_le (.dc (by decide +kernel) (j_var (by decide +kernel)) (by decide))) (ss_cons (s_app hG (by decide +kernel) (j_tup (j_dfr (by decide +kernel) (j_dfr (by decide +kernel) (j_nil)))))
  (ss_nil)) (ss_nil))
  (ss_nil)))))
  (ss_nil)))
  (ss_cons (s_ret (j_mv (by decide +kernel)))
  (ss_nil)))
theorem sc_meet_spans : FnScope N_meet_spans [Str.ofString "one", Str.ofString "other"] (defScope s_meet_spans) := ⟨rfl, rfl, rfl, by decide +kernel, rfl, by decide +kernel, by decide +kernel⟩
abbrev s_turned : Stmt := top 13
def N_turned : List Str := [Str.ofString "spans", Str.ofString "low", Str.ofString "high", Str.ofString "found", Str.ofString "first", Str.ofString "begin", Str.ofString "end", Str.ofString "span"]
theorem nd_turned : N_turned.Nodup := by decide +kernel
theorem b_turned {E : En} {G : GC} (hG : G.K = E.K) (m_max : E.mg (Str.ofString "max") = none) (m_min : E.mg (Str.ofString "min") = none) : JSs E G (fnPl N_turned 0 (defScope s_turned)) 8 [] (defBody s_turned) ev_turned :=
  ss_cons (s_asg (by decide +kernel) (by exact nd_turned) (by decide) (by decide) (j_lst (j_nil)))
  (ss_cons (s_asg (by decide +kernel) (by exact nd_turned) (by decide) (by decide) (j_fv (by decide +kernel)))
  (ss_cons (s_for (pn' := [0]) (j_srcV hG (by decide +kernel)) rt_src (fun i h => by cases h; decide) (by decide) (j_tgt hG (j_ns (by decide +kernel) (by exact nd_turned) (by decide) (by decide) (j_ns (by decide +kernel) (by exact nd_turned) (by decide) (by decide) (j_ns0)))) (ss_cons (s_if (j_tcmp hG ok_gt (.dc (by decide +kernel) (j_var (by decide +kernel)) (by decide))) (ss_cons (s_app hG (by decide +kernel) (j_tup (j_dfr (by decide +kernel) (j_cons (j_biC hG ok_min2 (by decide +kernel) m_min (by decide +kernel) (j_cons (j_bin hG ok_sub (.dc (by decide +kernel) (j_int) (by decide))) (j_dfr (by decide +kernel) (j_nil)))) (j_nil)))))
  (ss_nil)) (ss_nil))
  (ss_cons (s_asg (by decide +kernel) (by exact nd_turned) (by decide) (by decide) (j_biC hG ok_max2 (by decide +kernel) m_max (by decide +kernel) (j_dfr (by decide +kernel) (j_cons (j_bin hG ok_add (.dc (by decide +kernel) (j_int) (by decide))) (j_nil)))))
  (ss_nil))))
  (ss_cons (s_if (j_tcmp hG ok_le (.dc (by decide +kernel) (j_var (by decide +kernel)) (by decide))) (ss_cons (s_app hG (by decide +kernel) (j_tup (j_dfr (by decide +kernel) (j_dfr (by decide +kernel) (j_nil)))))
  (ss_nil)) (ss_nil))
  (ss_cons (s_ret (JLc.pe (j_lcK (own := [(Str.ofString "span", 7)]) (by exact nd_turned) (by decide +kernel) (j_srcV hG (by decide +kernel)) rt_src (fun i h => by cases h; decide) (j_tg (by decide +kernel) (by exact nd_turned) (by decide) (by decide)) (j_tst (j_w (j_wand (j_tcmp hG ok_le (.cc (j_ix hG ok_item (.dc (by decide +kernel) (j_int) (by decide))) (j_ix hG ok_item (.dc (by decide +kernel) (j_int) (by decide))) (by decide) (by decide))) (j_wa1 (j_tcmp hG ok_le (.cc (j_ix hG ok_item (.dc (by decide +kernel) (j_int) (by decide))) (j_var (by decide +kernel)) (by decide) (by decide))))))) (j_fv (by decide +kernel)))))
  (ss_nil)))))
theorem sc_turned : FnScope N_turned [Str.ofString "spans", Str.ofString "low", Str.ofString "high"] (defScope s_turned) := ⟨rfl, rfl, rfl, by decide +kernel, rfl, by decide +kernel, by decide +kernel⟩
abbrev s_length : Stmt := top 14
def N_length : List Str := [Str.ofString "spans", Str.ofString "begin", Str.ofString "end"]
theorem nd_length : N_length.Nodup := by decide +kernel
theorem b_length {E : En} {G : GC} (hG : G.K = E.K) (m_sum : E.mg (Str.ofString "sum") = none) : JSs E G (fnPl N_length 0 (defScope s_length)) 3 [] (defBody s_length) ev_length :=
  ss_cons (s_ret (j_biC hG ok_sum (by decide +kernel) m_sum (by decide +kernel) (j_cons (JLc.pe (j_lcK (own := [(Str.ofString "begin", 1), (Str.ofString "end", 2)]) (by exact nd_length) (by decide +kernel) (j_srcV hG (by decide +kernel)) rt_src (fun i h => by cases h; decide) (j_tgt hG (j_ns (by decide +kernel) (by exact nd_length) (by decide) (by decide) (j_ns (by decide +kernel) (by exact nd_length) (by decide) (by decide) (j_ns0)))) (j_yes) (j_bin hG ok_add (.cc (j_bin hG ok_sub (.dc (by decide +kernel) (j_var (by decide +kernel)) (by decide))) (j_int) (by decide) (by decide))))) (j_nil))))
  (ss_nil)
theorem sc_length : FnScope N_length [Str.ofString "spans"] (defScope s_length) := ⟨rfl, rfl, rfl, by decide +kernel, rfl, by decide +kernel, by decide +kernel⟩
abbrev s_agreement : Stmt := top 25
def N_agreement : List Str := [Str.ofString "one", Str.ofString "other", Str.ofString "level", Str.ofString "begin", Str.ofString "end", Str.ofString "first", Str.ofString "second", Str.ofString "both", Str.ofString "none"]
theorem nd_agreement : N_agreement.Nodup := by decide +kernel
theorem b_agreement {E : En} {G : GC} (hG : G.K = E.K) (c_Tide__spans_above : FdM E G 3 (Str.ofString "spans_above") 5 F_Tide__spans_above []) (c_length : Fd E G (Str.ofString "length") 1 F_length []) (c_meet_spans : Fd E G (Str.ofString "meet_spans") 1 F_meet_spans []) (c_turned : Fd E G (Str.ofString "turned") 1 F_turned []) : JSs E G (fnPl N_agreement 5 (defScope s_agreement)) 9 [] (defBody s_agreement) ev_agreement :=
  ss_cons (s_asg (by decide +kernel) (by exact nd_agreement) (by decide) (by decide) (j_meth c_Tide__spans_above (by decide) (by decide +kernel) (j_dfr (by decide +kernel) (j_dfr (by decide +kernel) (j_dfr (by decide +kernel) (j_nil)))) (by exact fun _ => rfl)))
  (ss_cons (s_asg (by decide +kernel) (by exact nd_agreement) (by decide) (by decide) (j_meth c_Tide__spans_above (by decide) (by decide +kernel) (j_dfr (by decide +kernel) (j_dfr (by decide +kernel) (j_dfr (by decide +kernel) (j_nil)))) (by exact fun _ => rfl)))
  (ss_cons (s_asg (by decide +kernel) (by exact nd_agreement) (by decide) (by decide) (j_own c_length (by decide) (by decide +kernel) (j_cons (j_own c_meet_spans (by decide) (by decide +kernel) (j_dfr (by decide +kernel) (j_dfr (by decide +kernel) (j_nil)))) (j_nil))))
  (ss_cons (s_asg (by decide +kernel) (by exact nd_agreement) (by decide) (by decide) (j_own c_length (by decide) (by decide +kernel) (j_cons (j_own c_meet_spans (by decide) (by decide +kernel) (j_cons (j_own c_turned (by decide) (by decide +kernel) (j_dfr (by decide +kernel) (j_dfr (by decide +kernel) (j_dfr (by decide +kernel) (j_nil))))) (j_cons (j_own c_turned (by decide) (by decide +kernel) (j_dfr (by decide +kernel) (j_dfr (by decide +kernel) (j_dfr (by decide +kernel) (j_nil))))) (j_nil)))) (j_nil))))
  (ss_cons (s_ret (j_bin hG ok_add (.dc (by decide +kernel) (j_var (by decide +kernel)) (by decide))))
  (ss_nil)))))
theorem sc_agreement : FnScope N_agreement [Str.ofString "one", Str.ofString "other", Str.ofString "level", Str.ofString "begin", Str.ofString "end"] (defScope s_agreement) := ⟨rfl, rfl, rfl, by decide +kernel, rfl, by decide +kernel, by decide +kernel⟩
abbrev s_turns_of : Stmt := top 26
def N_turns_of : List Str := [Str.ofString "tide", Str.ofString "level", Str.ofString "begin", Str.ofString "end", Str.ofString "found", Str.ofString "first", Str.ofString "last"]
theorem nd_turns_of : N_turns_of.Nodup := by decide +kernel
theorem b_turns_of {E : En} {G : GC} (hG : G.K = E.K) (c_Tide__spans_above : FdM E G 3 (Str.ofString "spans_above") 5 F_Tide__spans_above []) : JSs E G (fnPl N_turns_of 5 (defScope s_turns_of)) 7 [] (defBody s_turns_of) ev_turns_of :=
  ss_cons (s_asg (by decide +kernel) (by exact nd_turns_of) (by decide) (by decide) (j_lst (j_nil)))
  (ss_cons (s_for (pn' := []) (j_src hG (j_meth c_Tide__spans_above (by decide) (by decide +kernel) (j_dfr (by decide +kernel) (j_dfr (by decide +kernel) (j_dfr (by decide +kernel) (j_nil)))) (by exact fun _ => rfl))) rt_src (fun _ h => nomatch h) (by decide) (j_tgt hG (j_ns (by decide +kernel) (by exact nd_turns_of) (by decide) (by decide) (j_ns (by decide +kernel) (by exact nd_turns_of) (by decide) (by decide) (j_ns0)))) (ss_cons (s_if (j_tcmp hG ok_gt (.dc (by decide +kernel) (j_var (by decide +kernel)) (by decide))) (ss_cons (s_app hG (by decide +kernel) (j_tup (j_dfr (by decide +kernel) (j_cons (j_bl) (j_nil)))))
  (ss_nil)) (ss_nil))
  (ss_cons (s_if (j_tcmp hG ok_lt (.dc (by decide +kernel) (j_var (by decide +kernel)) (by decide))) (ss_cons (s_app hG (by decide +kernel) (j_tup (j_cons (j_bin hG ok_add (.dc (by decide +kernel) (j_int) (by decide))) (j_cons (j_bl) (j_nil)))))
  (ss_nil)) (ss_nil))
  (ss_nil))))
  (ss_cons (s_ret (j_mv (by decide +kernel)))
  (ss_nil)))
theorem sc_turns_of : FnScope N_turns_of [Str.ofString "tide", Str.ofString "level", Str.ofString "begin", Str.ofString "end"] (defScope s_turns_of) := ⟨rfl, rfl, rfl, by decide +kernel, rfl, by decide +kernel, by decide +kernel⟩
abbrev s__law_cell : Stmt := top 28
def N__law_cell : List Str := [Str.ofString "script", Str.ofString "k"]
theorem nd__law_cell : N__law_cell.Nodup := by decide +kernel
theorem b__law_cell {E : En} {G : GC} (hG : G.K = E.K) (m_abs : E.mg (Str.ofString "abs") = none) (m_int : E.mg (Str.ofString "int") = none) (m_len : E.mg (Str.ofString "len") = none) : JSs E G (fnPl N__law_cell 0 (defScope s__law_cell)) 2 [] (defBody s__law_cell) ev__law_cell :=
  ss_cons (s_if (j_tcmp hG ok_lt (.dc (by decide +kernel) (j_bi hG ok_len (by decide +kernel) m_len (by decide +kernel) (j_dfr (by decide +kernel) (j_nil))) (by decide))) (ss_cons (s_ret (j_bi hG ok_abs (by decide +kernel) m_abs (by decide +kernel) (j_cons (j_ty hG ok_int (by decide +kernel) m_int (by decide +kernel) (j_cons (j_ix hG ok_item (.dc (by decide +kernel) (j_var (by decide +kernel)) (by decide))) (j_nil))) (j_nil))))
  (ss_nil)) (ss_nil))
  (ss_cons (s_ret (j_bin hG ok_add (.cc (j_bin hG ok_mul (.cc (j_int) (j_var (by decide +kernel)) (by decide) (by decide))) (j_int) (by decide) (by decide))))
  (ss_nil))
theorem sc__law_cell : FnScope N__law_cell [Str.ofString "script", Str.ofString "k"] (defScope s__law_cell) := ⟨rfl, rfl, rfl, by decide +kernel, rfl, by decide +kernel, by decide +kernel⟩
abbrev s__law_take : Stmt := top 29
def N__law_take : List Str := [Str.ofString "state", Str.ofString "limit", Str.ofString "cell", Str.ofString "found"]
theorem nd__law_take : N__law_take.Nodup := by decide +kernel
theorem b__law_take {E : En} {G : GC} (hG : G.K = E.K) (m_int : E.mg (Str.ofString "int") = none) (c__law_cell : Fd E G (Str.ofString "_law_cell") 1 F__law_cell []) : JSs E G (fnPl N__law_take 1 (defScope s__law_take)) 4 [0] (defBody s__law_take) ev__law_take :=
  ss_cons (s_if (j_tcmp hG ok_gt (.cc (j_ix hG ok_item (.dc (by decide +kernel) (j_int) (by decide))) (j_int) (by decide) (by decide))) (ss_cons (s_asg (by decide +kernel) (by exact nd__law_take) (by decide) (by decide) (j_bin hG ok_mod (.cc (j_ty hG ok_int (by decide +kernel) m_int (by decide +kernel) (j_cons (j_ix hG ok_item (.dc (by decide +kernel) (j_int) (by decide))) (j_nil))) (j_var (by decide +kernel)) (by decide) (by decide))))
  (ss_cons (s_set hG (by decide +kernel) (j_bin hG ok_div (.cc (j_ty hG ok_int (by decide +kernel) m_int (by decide +kernel) (j_cons (j_ix hG ok_item (.dc (by decide +kernel) (j_int) (by decide))) (j_nil))) (j_var (by decide +kernel)) (by decide) (by decide))) (j_int))
  (ss_cons (s_ret (j_mv (by decide +kernel)))
  (ss_nil)))) (ss_nil))
  (ss_cons (s_asg (by decide +kernel) (by exact nd__law_take) (by decide) (by decide) (j_own c__law_cell (by decide) (by decide +kernel) (j_cons (j_ix hG ok_item (.dc (by decide +kernel) (j_int) (by decide))) (j_cons (j_ix hG ok_item (.dc (by decide +kernel) (j_int) (by decide))) (j_nil)))))
  (ss_cons (s_set hG (by decide +kernel) (j_bin hG ok_add (.cc (j_ix hG ok_item (.dc (by decide +kernel) (j_int) (by decide))) (j_int) (by decide) (by decide))) (j_int))
  (ss_cons (s_if (j_tcmp hG ok_ge (.dc (by decide +kernel) (j_bin hG ok_pow (.cc (j_int) (j_int) (by decide) (by decide))) (by decide))) (ss_cons (s_set hG (by decide +kernel) (j_bin hG ok_div (.cc (j_ty hG ok_int (by decide +kernel) m_int (by decide +kernel) (j_dfr (by decide +kernel) (j_nil))) (j_var (by decide +kernel)) (by decide) (by decide))) (j_int))
  (ss_nil)) (ss_nil))
  (ss_cons (s_ret (j_bin hG ok_mod (.cc (j_ty hG ok_int (by decide +kernel) m_int (by decide +kernel) (j_dfr (by decide +kernel) (j_nil))) (j_var (by decide +kernel)) (by decide) (by decide))))
  (ss_nil)))))
theorem sc__law_take : FnScope N__law_take [Str.ofString "state", Str.ofString "limit"] (defScope s__law_take) := ⟨rfl, rfl, rfl, by decide +kernel, rfl, by decide +kernel, by decide +kernel⟩
abbrev s__law_points : Stmt := top 30
def N__law_points : List Str := [Str.ofString "state", Str.ofString "most", Str.ofString "far", Str.ofString "points", Str.ofString "minute", Str.ofString "k"]
theorem nd__law_points : N__law_points.Nodup := by decide +kernel
theorem b__law_points {E : En} {G : GC} (hG : G.K = E.K) (m_range : E.mg (Str.ofString "range") = none) (c__law_take : Fd E G (Str.ofString "_law_take") 2 F__law_take []) : JSs E G (fnPl N__law_points 2 (defScope s__law_points)) 6 [0] (defBody s__law_points) ev__law_points :=
  ss_cons (s_asg (by decide +kernel) (by exact nd__law_points) (by decide) (by decide) (j_lst (j_nil)))
  (ss_cons (s_asg (by decide +kernel) (by exact nd__law_points) (by decide) (by decide) (j_ownM c__law_take (by decide) (by decide +kernel) (by decide +kernel) (j_cons (j_int) (j_nil))))
  (ss_cons (s_for (pn' := [0]) (j_rng1 (by decide +kernel) m_range (j_cons (j_bin hG ok_add (.cc (j_int) (j_ownM c__law_take (by decide) (by decide +kernel) (by decide +kernel) (j_dfr (by decide +kernel) (j_nil))) (by decide) (by decide))) (j_nil))) rt_rng (fun _ h => nomatch h) (by decide) (j_tg (by decide +kernel) (by exact nd__law_points) (by decide) (by decide)) (ss_cons (s_app hG (by decide +kernel) (j_tup (j_dfr (by decide +kernel) (j_cons (j_bin hG ok_add (.cc (j_ix hG ok_item (.cc (j_lst (j_cons (j_int) (j_cons (j_int) (j_cons (j_int) (j_cons (j_int) (j_cons (j_int) (j_cons (j_int) (j_cons (j_int) (j_nil))))))))) (j_ownM c__law_take (by decide) (by decide +kernel) (by decide +kernel) (j_cons (j_int) (j_nil))) (by decide) (by decide))) (j_ownM c__law_take (by decide) (by decide +kernel) (by decide +kernel) (j_cons (j_int) (j_nil))) (by decide) (by decide))) (j_nil)))))
  (ss_cons (s_asg (by decide +kernel) (by exact nd__law_points) (by decide) (by decide) (j_bin hG ok_add (.cc (j_bin hG ok_add (.dc (by decide +kernel) (j_int) (by decide))) (j_ownM c__law_take (by decide) (by decide +kernel) (by decide +kernel) (j_dfr (by decide +kernel) (j_nil))) (by decide) (by decide))))
  (ss_nil))))
  (ss_cons (s_ret (j_mv (by decide +kernel)))
  (ss_nil))))
theorem sc__law_points : FnScope N__law_points [Str.ofString "state", Str.ofString "most", Str.ofString "far"] (defScope s__law_points) := ⟨rfl, rfl, rfl, by decide +kernel, rfl, by decide +kernel, by decide +kernel⟩
abbrev s__law_height : Stmt := top 31
def N__law_height : List Str := [Str.ofString "points", Str.ofString "minute", Str.ofString "k", Str.ofString "rise"]
theorem nd__law_height : N__law_height.Nodup := by decide +kernel
theorem b__law_height {E : En} {G : GC} (hG : G.K = E.K) (m_len : E.mg (Str.ofString "len") = none) (m_range : E.mg (Str.ofString "range") = none) : JSs E G (fnPl N__law_height 0 (defScope s__law_height)) 4 [] (defBody s__law_height) ev__law_height :=
  ss_cons (s_if (j_tcmp hG ok_le (.dc (by decide +kernel) (j_ix hG ok_item (.cc (j_ix hG ok_item (.dc (by decide +kernel) (j_int) (by decide))) (j_int) (by decide) (by decide))) (by decide))) (ss_cons (s_ret (j_ix hG ok_item (.cc (j_ix hG ok_item (.dc (by decide +kernel) (j_int) (by decide))) (j_int) (by decide) (by decide))))
  (ss_nil)) (ss_nil))
  (ss_cons (s_for (pn' := []) (j_rng2 (by decide +kernel) m_range (j_cons (j_int) (j_cons (j_bi hG ok_len (by decide +kernel) m_len (by decide +kernel) (j_dfr (by decide +kernel) (j_nil))) (j_nil)))) rt_rng (fun _ h => nomatch h) (by decide) (j_tg (by decide +kernel) (by exact nd__law_height) (by decide) (by decide)) (ss_cons (s_if (j_tchain hG ok_le ok_lt (j_ix hG ok_item (.cc (j_ix hG ok_item (.dc (by decide +kernel) (j_bin hG ok_sub (.dc (by decide +kernel) (j_int) (by decide))) (by decide))) (j_int) (by decide) (by decide))) (j_var (by decide +kernel)) (j_ix hG ok_item (.cc (j_ix hG ok_item (.dc (by decide +kernel) (j_var (by decide +kernel)) (by decide))) (j_int) (by decide) (by decide)))) (ss_cons (s_asg (by decide +kernel) (by exact nd__law_height) (by decide) (by decide) (j_bin hG ok_sub (.cc (j_ix hG ok_item (.cc (j_ix hG ok_item (.dc (by decide +kernel) (j_var (by decide +kernel)) (by decide))) (j_int) (by decide) (by decide))) (j_ix hG ok_item (.cc (j_ix hG ok_item (.dc (by decide +kernel) (j_bin hG ok_sub (.dc (by decide +kernel) (j_int) (by decide))) (by decide))) (j_int) (by decide) (by decide))) (by decide) (by decide))))
  (ss_cons (s_ret (j_bin hG ok_add (.cc (j_ix hG ok_item (.cc (j_ix hG ok_item (.dc (by decide +kernel) (j_bin hG ok_sub (.dc (by decide +kernel) (j_int) (by decide))) (by decide))) (j_int) (by decide) (by decide))) (j_bin hG ok_div (.cc (j_bin hG ok_mul (.dc (by decide +kernel) (j_bin hG ok_sub (.dc (by decide +kernel) (j_ix hG ok_item (.cc (j_ix hG ok_item (.dc (by decide +kernel) (j_bin hG ok_sub (.dc (by decide +kernel) (j_int) (by decide))) (by decide))) (j_int) (by decide) (by decide))) (by decide))) (by decide))) (j_bin hG ok_sub (.cc (j_ix hG ok_item (.cc (j_ix hG ok_item (.dc (by decide +kernel) (j_var (by decide +kernel)) (by decide))) (j_int) (by decide) (by decide))) (j_ix hG ok_item (.cc (j_ix hG ok_item (.dc (by decide +kernel) (j_bin hG ok_sub (.dc (by decide +kernel) (j_int) (by decide))) (by decide))) (j_int) (by decide) (by decide))) (by decide) (by decide))) (by decide) (by decide))) (by decide) (by decide))))
  (ss_nil))) (ss_nil))
  (ss_nil)))
  (ss_cons (s_ret (j_ix hG ok_item (.cc (j_ix hG ok_item (.dc (by decide +kernel) (j_un hG ok_neg (j_int)) (by decide))) (j_int) (by decide) (by decide))))
  (ss_nil)))
theorem sc__law_height : FnScope N__law_height [Str.ofString "points", Str.ofString "minute"] (defScope s__law_height) := ⟨rfl, rfl, rfl, by decide +kernel, rfl, by decide +kernel, by decide +kernel⟩
abbrev s__law_of : Stmt := top 32
def N__law_of : List Str := [Str.ofString "minutes", Str.ofString "found", Str.ofString "minute"]
theorem nd__law_of : N__law_of.Nodup := by decide +kernel
theorem b__law_of {E : En} {G : GC} (hG : G.K = E.K) (m_sorted : E.mg (Str.ofString "sorted") = none) : JSs E G (fnPl N__law_of 0 (defScope s__law_of)) 3 [] (defBody s__law_of) ev__law_of :=
  ss_cons (s_asg (by decide +kernel) (by exact nd__law_of) (by decide) (by decide) (j_lst (j_nil)))
  (ss_cons (s_for (pn' := []) (j_src hG (j_bi hG ok_sorted (by decide +kernel) m_sorted (by decide +kernel) (j_dfr (by decide +kernel) (j_nil)))) rt_src (fun _ h => nomatch h) (by decide) (j_tg (by decide +kernel) (by exact nd__law_of) (by decide) (by decide)) (ss_cons (s_if (j_w (j_wand (j_tcmp hG ok_ne (.dc (by decide +kernel) (j_lst (j_nil)) (by decide))) (j_wa1 (j_tcmp hG ok_le (.dc (by decide +kernel) (j_bin hG ok_add (.cc (j_ix hG ok_item (.cc (j_ix hG ok_item (.dc (by decide +kernel) (j_un hG ok_neg (j_int)) (by decide))) (j_int) (by decide) (by decide))) (j_int) (by decide) (by decide))) (by decide)))))) (ss_cons (s_set hG (by decide +kernel) (j_tup (j_cons (j_ix hG ok_item (.cc (j_ix hG ok_item (.dc (by decide +kernel) (j_un hG ok_neg (j_int)) (by decide))) (j_int) (by decide) (by decide))) (j_dfr (by decide +kernel) (j_nil)))) (j_un hG ok_neg (j_int)))
  (ss_nil)) (ss_cons (s_app hG (by decide +kernel) (j_tup (j_dfr (by decide +kernel) (j_dfr (by decide +kernel) (j_nil)))))
  (ss_nil)))
  (ss_nil)))
  (ss_cons (s_ret (j_mv (by decide +kernel)))
  (ss_nil)))
theorem sc__law_of : FnScope N__law_of [Str.ofString "minutes"] (defScope s__law_of) := ⟨rfl, rfl, rfl, by decide +kernel, rfl, by decide +kernel, by decide +kernel⟩
abbrev s_law : Stmt := top 33
def N_law : List Str := [Str.ofString "script", Str.ofString "state", Str.ofString "points", Str.ofString "handed", Str.ofString "tide", Str.ofString "other", Str.ofString "second", Str.ofString "k", Str.ofString "later", Str.ofString "level", Str.ofString "begin", Str.ofString "end", Str.ofString "minutes", Str.ofString "due", Str.ofString "heights", Str.ofString "rises", Str.ofString "falls", Str.ofString "same", Str.ofString "minute", Str.ofString "span", Str.ofString "height"]
theorem nd_law : N_law.Nodup := by decide +kernel
theorem b_law {E : En} {G : GC} (hG : G.K = E.K) (m_len : E.mg (Str.ofString "len") = none) (m_list : E.mg (Str.ofString "list") = none) (m_max : E.mg (Str.ofString "max") = none) (m_range : E.mg (Str.ofString "range") = none) (m_repr : E.mg (Str.ofString "repr") = none) (m_sorted : E.mg (Str.ofString "sorted") = none) (q_Tide : PySem.W.notFirst E.K (G.cls 3) (.type "int") = true) (c_Tide____eq__ : FdM E G 3 (Str.ofString "__eq__") 2 F_Tide____eq__ []) (c_Tide____init__ : FdI E G (Str.ofString "Tide") 3 3 F_Tide____init__ []) (c_Tide__height : FdM E G 3 (Str.ofString "height") 2 F_Tide__height []) (c_Tide__highest : FdM E G 3 (Str.ofString "highest") 7 F_Tide__highest []) (c_Tide__points : FdM E G 3 (Str.ofString "points") 1 F_Tide__points []) (c_Tide__spans_above : FdM E G 3 (Str.ofString "spans_above") 5 F_Tide__spans_above []) (c__law_height : Fd E G (Str.ofString "_law_height") 1 F__law_height []) (c__law_of : Fd E G (Str.ofString "_law_of") 1 F__law_of []) (c__law_points : Fd E G (Str.ofString "_law_points") 3 F__law_points []) (c__law_take : Fd E G (Str.ofString "_law_take") 2 F__law_take []) (c_agreement : Fd E G (Str.ofString "agreement") 6 F_agreement []) (c_ebb : Fd E G (Str.ofString "ebb") 4 F_ebb []) (c_flood : Fd E G (Str.ofString "flood") 4 F_flood []) (c_moved : Fd E G (Str.ofString "moved") 5 F_moved []) (c_turns_of : Fd E G (Str.ofString "turns_of") 6 F_turns_of []) : JSs E G (fnPl N_law 7 (defScope s_law)) 21 [] (defBody s_law) ev_law :=
  ss_cons (s_asg (by decide +kernel) (by exact nd_law) (by decide) (by decide) (j_lst (j_dfr (by decide +kernel) (j_cons (j_int) (j_cons (j_int) (j_nil))))))
  (ss_cons (s_asg (by decide +kernel) (by exact nd_law) (by decide) (by decide) (j_ownM c__law_points (by decide) (by decide +kernel) (by decide +kernel) (j_cons (j_int) (j_cons (j_int) (j_nil)))))
  (ss_cons (s_asg (by decide +kernel) (by exact nd_law) (by decide) (by decide) (j_ty hG ok_list (by decide +kernel) m_list (by decide +kernel) (j_dfr (by decide +kernel) (j_nil))))
  (ss_cons (s_asg (by decide +kernel) (by exact nd_law) (by decide) (by decide) (j_make c_Tide____init__ (by decide) (by decide +kernel) (j_dfr (by decide +kernel) (j_nil))))
  (ss_cons (s_app hG (by decide +kernel) (j_tup (j_cons (j_int) (j_cons (j_int) (j_nil)))))
  (ss_cons (s_asg (by decide +kernel) (by exact nd_law) (by decide) (by decide) (j_ownM c__law_points (by decide) (by decide +kernel) (by decide +kernel) (j_cons (j_int) (j_cons (j_int) (j_nil)))))
  (ss_cons (s_asg (by decide +kernel) (by exact nd_law) (by decide) (by decide) (j_make c_Tide____init__ (by decide) (by decide +kernel) (j_dfr (by decide +kernel) (j_nil))))
  (ss_cons (s_if (j_w (j_wor (j_tcmp hG ok_ne (.cc (j_meth0 c_Tide__points (by decide) (by decide +kernel) (by exact fun _ => rfl)) (j_var (by decide +kernel)) (by decide) (by decide))) (j_wo1 (j_tcmp hG ok_ne (.cc (JLc.pe (j_lcK (own := [(Str.ofString "minute", 18)]) (by exact nd_law) (by decide +kernel) (j_rng1 (by decide +kernel) m_range (j_cons (j_int) (j_nil))) rt_rng (fun _ h => nomatch h) (j_tg (by decide +kernel) (by exact nd_law) (by decide) (by decide)) (j_yes) (j_meth c_Tide__height (by decide) (by decide +kernel) (j_dfr (by decide +kernel) (j_nil)) (by exact fun _ => rfl)))) (JLc.pe (j_lcK (own := [(Str.ofString "minute", 18)]) (by exact nd_law) (by decide +kernel) (j_rng1 (by decide +kernel) m_range (j_cons (j_int) (j_nil))) rt_rng (fun _ h => nomatch h) (j_tg (by decide +kernel) (by exact nd_law) (by decide) (by decide)) (j_yes) (j_own c__law_height (by decide) (by decide +kernel) (j_dfr (by decide +kernel) (j_dfr (by decide +kernel) (j_nil)))))) (by decide) (by decide)))))) (ss_cons (s_ret (j_bl))
  (ss_nil)) (ss_nil))
  (ss_cons (s_for (pn' := []) (j_rng1 (by decide +kernel) m_range (j_cons (j_int) (j_nil))) rt_rng (fun _ h => nomatch h) (by decide) (j_tg (by decide +kernel) (by exact nd_law) (by decide) (by decide)) (ss_cons (s_asg (by decide +kernel) (by exact nd_law) (by decide) (by decide) (j_ownM c__law_take (by decide) (by decide +kernel) (by decide +kernel) (j_cons (j_int) (j_nil))))
  (ss_cons (s_asg (by decide +kernel) (by exact nd_law) (by decide) (by decide) (j_ownM c__law_take (by decide) (by decide +kernel) (by decide +kernel) (j_cons (j_int) (j_nil))))
  (ss_cons (s_asg (by decide +kernel) (by exact nd_law) (by decide) (by decide) (j_bin hG ok_add (.dc (by decide +kernel) (j_ownM c__law_take (by decide) (by decide +kernel) (by decide +kernel) (j_cons (j_int) (j_nil))) (by decide))))
  (ss_cons (s_asgLc (by decide +kernel) (by decide +kernel) (by decide +kernel) (by decide) (by decide) (j_lcK (own := [(Str.ofString "minute", 18)]) (by exact nd_law) (by decide +kernel) (j_rng2 (by decide +kernel) m_range (j_dfr (by decide +kernel) (j_cons (j_bin hG ok_add (.dc (by decide +kernel) (j_int) (by decide))) (j_nil)))) rt_rng (fun _ h => nomatch h) (j_tg (by decide +kernel) (by exact nd_law) (by decide) (by decide)) (j_tst (j_tcmp hG ok_ge (.cc (j_own c__law_height (by decide) (by decide +kernel) (j_dfr (by decide +kernel) (j_dfr (by decide +kernel) (j_nil)))) (j_var (by decide +kernel)) (by decide) (by decide)))) (j_fv (by decide +kernel))) (by rfl) (by decide +kernel))
  (ss_cons (s_if (j_tcmp hG ok_ne (.cc (j_meth c_Tide__spans_above (by decide) (by decide +kernel) (j_dfr (by decide +kernel) (j_dfr (by decide +kernel) (j_dfr (by decide +kernel) (j_nil)))) (by exact fun _ => rfl)) (j_own c__law_of (by decide) (by decide +kernel) (j_dfr (by decide +kernel) (j_nil))) (by decide) (by decide))) (ss_cons (s_ret (j_bl))
  (ss_nil)) (ss_nil))
  (ss_cons (s_asg (by decide +kernel) (by exact nd_law) (by decide) (by decide) (j_bin hG ok_add (.cc (JLc.pe (j_lcK (own := [(Str.ofString "span", 19)]) (by exact nd_law) (by decide +kernel) (j_src hG (j_own c__law_of (by decide) (by decide +kernel) (j_dfr (by decide +kernel) (j_nil)))) rt_src (fun _ h => nomatch h) (j_tg (by decide +kernel) (by exact nd_law) (by decide) (by decide)) (j_tst (j_tcmp hG ok_gt (.cc (j_ix hG ok_item (.dc (by decide +kernel) (j_int) (by decide))) (j_var (by decide +kernel)) (by decide) (by decide)))) (j_tup (j_cons (j_ix hG ok_item (.dc (by decide +kernel) (j_int) (by decide))) (j_cons (j_bl) (j_nil)))))) (JLc.pe (j_lcK (own := [(Str.ofString "span", 19)]) (by exact nd_law) (by decide +kernel) (j_src hG (j_own c__law_of (by decide) (by decide +kernel) (j_dfr (by decide +kernel) (j_nil)))) rt_src (fun _ h => nomatch h) (j_tg (by decide +kernel) (by exact nd_law) (by decide) (by decide)) (j_tst (j_tcmp hG ok_lt (.cc (j_ix hG ok_item (.dc (by decide +kernel) (j_int) (by decide))) (j_var (by decide +kernel)) (by decide) (by decide)))) (j_tup (j_cons (j_bin hG ok_add (.cc (j_ix hG ok_item (.dc (by decide +kernel) (j_int) (by decide))) (j_int) (by decide) (by decide))) (j_cons (j_bl) (j_nil)))))) (by decide) (by decide))))
  (ss_cons (s_if (j_tcmp hG ok_ne (.cc (j_own c_turns_of (by decide) (by decide +kernel) (j_dfr (by decide +kernel) (j_dfr (by decide +kernel) (j_dfr (by decide +kernel) (j_dfr (by decide +kernel) (j_nil)))))) (j_bi hG ok_sorted (by decide +kernel) m_sorted (by decide +kernel) (j_dfr (by decide +kernel) (j_nil))) (by decide) (by decide))) (ss_cons (s_ret (j_bl))
  (ss_nil)) (ss_nil))
  (ss_cons (s_asgLc (by decide +kernel) (by decide +kernel) (by decide +kernel) (by decide) (by decide) (j_lcK (own := [(Str.ofString "minute", 18)]) (by exact nd_law) (by decide +kernel) (j_rng2 (by decide +kernel) m_range (j_dfr (by decide +kernel) (j_cons (j_bin hG ok_add (.dc (by decide +kernel) (j_int) (by decide))) (j_nil)))) rt_rng (fun _ h => nomatch h) (j_tg (by decide +kernel) (by exact nd_law) (by decide) (by decide)) (j_yes) (j_own c__law_height (by decide) (by decide +kernel) (j_dfr (by decide +kernel) (j_dfr (by decide +kernel) (j_nil))))) (by rfl) (by decide +kernel))
  (ss_cons (s_if (j_tcmp hG ok_ne (.cc (j_meth c_Tide__highest (by decide) (by decide +kernel) (j_dfr (by decide +kernel) (j_dfr (by decide +kernel) (j_nil))) (by exact fun _ => rfl)) (j_bin hG ok_add (.dc (by decide +kernel) (j_lindex hG rfl (j_var (by decide +kernel)) (j_biC hG ok_max1 (by decide +kernel) m_max (by decide +kernel) (j_dfr (by decide +kernel) (j_nil)))) (by decide))) (by decide) (by decide))) (ss_cons (s_ret (j_bl))
  (ss_nil)) (ss_nil))
  (ss_cons (s_asgLc (by decide +kernel) (by decide +kernel) (by decide +kernel) (by decide) (by decide) (j_lcK (own := [(Str.ofString "minute", 18)]) (by exact nd_law) (by decide +kernel) (j_rng2 (by decide +kernel) m_range (j_dfr (by decide +kernel) (j_cons (j_bin hG ok_add (.dc (by decide +kernel) (j_int) (by decide))) (j_nil)))) rt_rng (fun _ h => nomatch h) (j_tg (by decide +kernel) (by exact nd_law) (by decide) (by decide)) (j_tst (j_tcmp hG ok_gt (.cc (j_own c__law_height (by decide) (by decide +kernel) (j_dfr (by decide +kernel) (j_cons (j_bin hG ok_add (.dc (by decide +kernel) (j_int) (by decide))) (j_nil)))) (j_own c__law_height (by decide) (by decide +kernel) (j_dfr (by decide +kernel) (j_dfr (by decide +kernel) (j_nil)))) (by decide) (by decide)))) (j_fv (by decide +kernel))) (by rfl) (by decide +kernel))
  (ss_cons (s_asgLc (by decide +kernel) (by decide +kernel) (by decide +kernel) (by decide) (by decide) (j_lcK (own := [(Str.ofString "minute", 18)]) (by exact nd_law) (by decide +kernel) (j_rng2 (by decide +kernel) m_range (j_dfr (by decide +kernel) (j_cons (j_bin hG ok_add (.dc (by decide +kernel) (j_int) (by decide))) (j_nil)))) rt_rng (fun _ h => nomatch h) (j_tg (by decide +kernel) (by exact nd_law) (by decide) (by decide)) (j_tst (j_tcmp hG ok_lt (.cc (j_own c__law_height (by decide) (by decide +kernel) (j_dfr (by decide +kernel) (j_cons (j_bin hG ok_add (.dc (by decide +kernel) (j_int) (by decide))) (j_nil)))) (j_own c__law_height (by decide) (by decide +kernel) (j_dfr (by decide +kernel) (j_dfr (by decide +kernel) (j_nil)))) (by decide) (by decide)))) (j_fv (by decide +kernel))) (by rfl) (by decide +kernel))
  (ss_cons (s_if (j_w (j_wor (j_tcmp hG ok_ne (.cc (j_own c_flood (by decide) (by decide +kernel) (j_dfr (by decide +kernel) (j_dfr (by decide +kernel) (j_dfr (by decide +kernel) (j_nil))))) (j_own c__law_of (by decide) (by decide +kernel) (j_dfr (by decide +kernel) (j_nil))) (by decide) (by decide))) (j_wo1 (j_tcmp hG ok_ne (.cc (j_own c_ebb (by decide) (by decide +kernel) (j_dfr (by decide +kernel) (j_dfr (by decide +kernel) (j_dfr (by decide +kernel) (j_nil))))) (j_own c__law_of (by decide) (by decide +kernel) (j_dfr (by decide +kernel) (j_nil))) (by decide) (by decide)))))) (ss_cons (s_ret (j_bl))
  (ss_nil)) (ss_nil))
  (ss_cons (s_asgLc (by decide +kernel) (by decide +kernel) (by decide +kernel) (by decide) (by decide) (j_lcK (own := [(Str.ofString "minute", 18)]) (by exact nd_law) (by decide +kernel) (j_rng2 (by decide +kernel) m_range (j_dfr (by decide +kernel) (j_cons (j_bin hG ok_add (.dc (by decide +kernel) (j_int) (by decide))) (j_nil)))) rt_rng (fun _ h => nomatch h) (j_tg (by decide +kernel) (by exact nd_law) (by decide) (by decide)) (j_tst (j_tcmp hG ok_eq (.cc (j_cmp hG ok_ge (.cc (j_own c__law_height (by decide) (by decide +kernel) (j_dfr (by decide +kernel) (j_dfr (by decide +kernel) (j_nil)))) (j_var (by decide +kernel)) (by decide) (by decide))) (j_cmp hG ok_ge (.cc (j_own c__law_height (by decide) (by decide +kernel) (j_dfr (by decide +kernel) (j_dfr (by decide +kernel) (j_nil)))) (j_var (by decide +kernel)) (by decide) (by decide))) (by decide) (by decide)))) (j_fv (by decide +kernel))) (by rfl) (by decide +kernel))
  (ss_cons (s_if (j_tcmp hG ok_ne (.cc (j_own c_agreement (by decide) (by decide +kernel) (j_dfr (by decide +kernel) (j_dfr (by decide +kernel) (j_dfr (by decide +kernel) (j_dfr (by decide +kernel) (j_dfr (by decide +kernel) (j_nil))))))) (j_bi hG ok_len (by decide +kernel) m_len (by decide +kernel) (j_dfr (by decide +kernel) (j_nil))) (by decide) (by decide))) (ss_cons (s_ret (j_bl))
  (ss_nil)) (ss_nil))
  (ss_nil))))))))))))))))
  (ss_cons (s_asg (by decide +kernel) (by exact nd_law) (by decide) (by decide) (j_own c_moved (by decide) (by decide +kernel) (j_dfr (by decide +kernel) (j_cons (j_int) (j_cons (j_int) (j_nil))))))
  (ss_cons (s_if (j_w (j_wor (j_tcmp hG ok_ne (.cc (j_meth0 c_Tide__points (by decide) (by decide +kernel) (by exact fun _ => rfl)) (JLc.pe (j_lcK (own := [(Str.ofString "minute", 18), (Str.ofString "height", 20)]) (by exact nd_law) (by decide +kernel) (j_srcV hG (by decide +kernel)) rt_src (fun i h => by cases h; decide) (j_tgt hG (j_ns (by decide +kernel) (by exact nd_law) (by decide) (by decide) (j_ns (by decide +kernel) (by exact nd_law) (by decide) (by decide) (j_ns0)))) (j_yes) (j_tup (j_cons (j_bin hG ok_add (.dc (by decide +kernel) (j_int) (by decide))) (j_cons (j_bin hG ok_add (.dc (by decide +kernel) (j_int) (by decide))) (j_nil)))))) (by decide) (by decide))) (j_wo1 (j_tcmp hG ok_ne (.cc (j_bi hG ok_repr (by decide +kernel) m_repr (by decide +kernel) (j_cons (j_cmpI hG c_Tide____eq__ (by decide) q_Tide (.dc (by decide +kernel) (j_var (by decide +kernel)) (by decide))) (j_nil))) (j_bi hG ok_repr (by decide +kernel) m_repr (by decide +kernel) (j_cons (j_cmp hG ok_eq (.dc (by decide +kernel) (j_var (by decide +kernel)) (by decide))) (j_nil))) (by decide) (by decide)))))) (ss_cons (s_ret (j_bl))
  (ss_nil)) (ss_nil))
  (ss_cons (s_ret (j_andV (j_cmpI hG c_Tide____eq__ (by decide) q_Tide (.dc (by decide +kernel) (j_make c_Tide____init__ (by decide) (by decide +kernel) (j_cons (j_ty hG ok_list (by decide +kernel) m_list (by decide +kernel) (j_dfr (by decide +kernel) (j_nil))) (j_nil))) (by decide))) (j_andV (j_notV (j_cmpI hG c_Tide____eq__ (by decide) q_Tide (.dc (by decide +kernel) (j_int) (by decide)))) (j_one (j_opq (j_cmp hG ok_eq (.cc (j_meth c_Tide__height (by decide) (by decide +kernel) (j_cons (j_int) (j_nil)) (by exact fun _ => rfl)) (j_bin hG ok_add (.cc (j_own c__law_height (by decide) (by decide +kernel) (j_dfr (by decide +kernel) (j_cons (j_int) (j_nil)))) (j_int) (by decide) (by decide))) (by decide) (by decide))))))))
  (ss_nil))))))))))))
theorem sc_law : FnScope N_law [Str.ofString "script"] (defScope s_law) := ⟨rfl, rfl, rfl, by decide +kernel, rfl, by decide +kernel, by decide +kernel⟩
end K13
namespace K13
open PySem PD
local macro_rules | `(tactic| simp! [$xs,*]) => `(tactic| simp only [e_cst, e_nil, e_yes, e_var, e_fv, e_mv, e_cons, e_dfr, e_op, e_tup, e_lst, e_tr, e_notT, e_andT, e_orT, e_andV, e_orV, e_notV, e_opq, e_if, e_call, e_callM, e_chain, e_src, e_rng, e_lc, g_nx, g_retN, g_brk, g_cnt, g_seq, g_drop, g_ret, g_asg, g_if, g_for, g_app, g_set, kk_ok, kS_ok, kQ_nx, kQ_rt, kQ_bk, kQ_ct, kk_ex, kS_ex, kQ_ex, g_raise, e_isi, g_asgT, e_grd, g_try, g_tryAs, g_appT, e_chainN, lkQ_1, lkQ_2, noX_rt, noX_nx, noX_bk, noX_ct, hdQ_0, hdQ_s, tryQ_ex, tryQ_rt, tryQ_nx, tryQ_bk, tryQ_ct, tasQ_ex, tasQ_rt, tasQ_nx, tasQ_bk, tasQ_ct, e_attr, g_setF, g_appF, e_meth, e_methM, e_make, g_asgL, mkQ_ok, mkQ_ex, e_dnew, g_dput, g_dputF, g_ddelF, g_ddel, g_dpopS, e_keys, e_isC, has_some, sl_0, sl_s, st_0, st_s, v_add, v_sub, v_neg, v_lt, v_le, v_gt, v_ge, v_eqi, v_nei, v_is, v_isNot, v_len, v_lenT, v_abs, v_int, v_intB, v_item, v_itemT, v_list, v_max, v_min, v_repr, blD_bl, truD_bl, truD_lst, isF_int, isF_bl, isF_non, isF_tup, isF_str, isF_lf, isF_lk, isF_lo, isF_ll, at_0, at_1, at_2, at_3, at_4, at_5, ix_0, ix_1, ix_2, cap_i, cap_t, noL_i, noL_n, noL_b, noL_t, ck_0, ck_s, lk_0, lk_1, lk_2, lk_3, lk_4, ln_0, ln_1, ln_2, ln_3, ln_4, own_o, own_l, own_f, its_o, its_l, its_f, lend_o, lend_i, lend_b, lend_n, lend_s, lend_t, cap_k, cap_f, lend_l, lend_f, sh_o, sh_l, sh_f, sh_k, Bool.or_true, Bool.true_or, Bool.or_false, Bool.false_or, intD, isLst, lstO, List.set_cons_zero, List.set_cons_succ, bind_S, ty_i, ty_b, ty_s, ty_t, ty_l, ty_n, is_ii, is_ib, is_is, is_it, is_il, is_bi, is_bb, is_bs, is_bt, is_bl, is_si, is_sb, is_ss, is_st, is_sl, is_ti, is_tb, is_ts, is_tt, is_tl, is_li, is_lb, is_ls, is_lt, is_ll, is_ni, is_nb, is_ns, is_nt, is_nl, v_eqS, v_neS, v_inS, v_notInS, truD_n, truD_t, cap_o, cap_s, cap_n, cap_b, noL_s, its_t, own_t, own_s, its_s, sv_n, sv_i, sv_s, sv_b, isStr_s, isNon_n, isNon_i, isNon_s, isNon_t, isNon_l, v_tup, noL_lo, noL_lf, frz_lo, frz_lf, insOf_s, insO_s, isIns_s, lstS_o, lstS_l, lstS_f, v_rev, lend_ioo, lend_ill, lend_if, lendN_0, lendN_s, frzN_0, frzN_s, cap_ioo, cap_if, frz_ioo, isF_ioo, isF_ill, isF_if, lstO_o, lk_00, pu_00, lk_01, pu_01, lk_02, pu_02, lk_03, pu_03, lk_04, pu_04, lk_05, pu_05, lk_06, pu_06, lk_10, pu_10, lk_11, pu_11, lk_12, pu_12, lk_13, pu_13, lk_14, pu_14, lk_15, pu_15, lk_16, pu_16, lk_20, pu_20, lk_21, pu_21, lk_22, pu_22, lk_23, pu_23, lk_24, pu_24, lk_25, pu_25, lk_26, pu_26, lk_30, pu_30, lk_31, pu_31, lk_32, pu_32, lk_33, pu_33, lk_34, pu_34, lk_35, pu_35, lk_36, pu_36, lk_40, pu_40, lk_41, pu_41, lk_42, pu_42, lk_43, pu_43, lk_44, pu_44, lk_45, pu_45, lk_46, pu_46, lk_50, pu_50, lk_51, pu_51, lk_52, pu_52, lk_53, pu_53, lk_54, pu_54, lk_55, pu_55, lk_56, pu_56, lk_60, pu_60, lk_61, pu_61, lk_62, pu_62, lk_63, pu_63, lk_64, pu_64, lk_65, pu_65, lk_66, pu_66, pu_n, l3_0, l3_1, l3_2, l3_3, l3_4, l3_5, l3_6, l3_7, dcO_o, key_s, key_i, isDic_d, isF_do, isF_dl, isF_df, lend_do, lend_dl, lend_df, frz_do, frz_df, cap_do, cap_df, noL_do, noL_df, own_d, v_itemUl, v_itemUt, v_inUl, v_inUt, v_notInUl, v_notInUt, v_inUs, v_inUi, v_notInUs, v_notInUi, v_lenUd, v_lenUl, v_lenUt, v_sortedUl, noL_ioo, noL_if, noL_ill, noLN_0, noLN_s, isC_1, isC_int, dcS_o, dcS_l, dcS_f, forL_0, kL_nx, kL_ct, kL_bk, kL_rt, kL_ex, tg_n, tg_t, tg_0, tg_s, wp_0, wp_s, bk_0, bk_s, rd_0, rd_s, sb_a, sb_l, si_a, si_l, hd_0, out_t, out_f, argD, ite_self, List.map_cons, List.map_nil, List.append_nil, List.cons_append, List.nil_append, Bool.and_true, Bool.true_and, Bool.not_true, Bool.not_false, Bool.and_false, Bool.false_and, true_and, and_true, decide_eq_true_eq, Bool.false_eq_true, if_false, if_true, ite_true, ite_false, reduceIte, Bool.not_eq_true', Bool.true_eq_false, eq_self, $xs,*])
abbrev scr (ns : List Int) : D := .lst .k (ns.map .int)
abbrev stt (ns : List Int) (p v : Int) : D := .lst .o [scr ns, .int p, .int v]
theorem cell_ok (ns : List Int) (p : Nat) : ∃ c : Int, 0 ≤ c ∧ F__law_cell [scr ns, .int p] = some (.ok (.int c), [none, none]) := by
  unfold F__law_cell
  by_cases h : p < ns.length
  · refine ⟨if ns[p] < 0 then - ns[p] else ns[p], by split <;> omega, fn_go rfl ?_⟩
    show Go ev__law_cell [some (scr ns), some (.int p)] _
    have hp : p < (ns.map D.int).length := by simpa using h
    simp! [ev__law_cell, at_nat hp]
    rw [if_pos (by simpa using h)]
    simp! [List.getElem_map]
    rfl
  · refine ⟨37 * p + 11, by omega, fn_go rfl ?_⟩
    show Go ev__law_cell [some (scr ns), some (.int p)] _
    simp! [ev__law_cell]
    rw [if_neg (by simpa using h), v_mul (mulL (by decide))]
    simp! []
    rfl
theorem take_ok (ns : List Int) (p : Nat) (v L : Int) (hv : 0 ≤ v) (hL : 0 < L) (hL2 : L < 1073741824) : ∃ (r : Int) (p' : Nat) (v' : Int), 0 ≤ r ∧ r < L ∧ 0 ≤ v' ∧ F__law_take [stt ns p v, .int L] = some (.ok (.int r), [some (stt ns p' v'), none]) := by
  unfold F__law_take
  by_cases h : 0 < v
  · refine ⟨v % L, p, v / L, Int.emod_nonneg _ (by omega), Int.emod_lt_of_pos _ hL, Int.ediv_nonneg (by omega) (by omega), fn_go rfl ?_⟩
    show Go ev__law_take [some (stt ns p v), some (.int L), none, none] _
    simp! [ev__law_take, v_mod hL, v_div ⟨hL, hL2⟩]
    rw [if_pos h]
    rfl
  · obtain ⟨c, hc, ec⟩ := cell_ok ns p
    have ecc : cap (scr ns) = scr ns := rfl
    have pw : gPow [.int 10, .int 9] = some (.int 1000000000) := by rfl
    by_cases h2 : 1000000000 ≤ c
    · refine ⟨c % L, p + 1, c / L, Int.emod_nonneg _ (by omega), Int.emod_lt_of_pos _ hL, Int.ediv_nonneg (by omega) (by omega), fn_go rfl ?_⟩
      show Go ev__law_take [some (stt ns p v), some (.int L), none, none] _
      simp! [ev__law_take, v_mod hL, v_div ⟨hL, hL2⟩, ecc, ec, pw]
      rw [if_neg h]
      rw [if_pos h2]
      rfl
    · refine ⟨c % L, p + 1, v, Int.emod_nonneg _ (by omega), Int.emod_lt_of_pos _ hL, hv, fn_go rfl ?_⟩
      show Go ev__law_take [some (stt ns p v), some (.int L), none, none] _
      simp! [ev__law_take, v_mod hL, v_div ⟨hL, hL2⟩, ecc, ec, pw]
      rw [if_neg h]
      rw [if_neg h2]
      rfl
abbrev Sp := List (Int × Int)
def pr (q : Int × Int) : D := .tup [.int q.1, .int q.2]
abbrev spD (m : Fl) (xs : Sp) : D := .lst m (xs.map pr)
abbrev miD (m : Fl) (xs : List Int) : D := .lst m (xs.map .int)
/-- lent or frozen -/
def RO (m : Fl) : Prop := shal m = true ∧ ∀ xs, owned (.lst m xs) = false
theorem RO.f : RO .f := ⟨rfl, fun _ => rfl⟩
theorem RO.l : RO .l := ⟨rfl, fun _ => rfl⟩
def inP (xs : Sp) (t : Int) : Bool := xs.any fun q => decide (q.1 ≤ t) && decide (t ≤ q.2)
def meetIn (b e : Int) : Sp → Sp
  | [] => []
  | q :: r => (if max b q.1 ≤ min e q.2 then [(max b q.1, min e q.2)] else []) ++ meetIn b e r
def meetP : Sp → Sp → Sp
  | [], _ => []
  | q :: r, o => meetIn q.1 q.2 o ++ meetP r o
theorem meetIn_len (b e : Int) : ∀ xs, (meetIn b e xs).length ≤ xs.length
  | [] => Nat.le_refl _
  | q :: r => by
    have := meetIn_len b e r
    rw [meetIn]
    split <;> simp <;> omega
theorem snoc (acc : Sp) (x y : Int) : acc.map pr ++ [D.tup [.int x, .int y]] = (acc ++ [(x, y)]).map pr := by rw [List.map_append]; rfl
theorem lp_meet0 {s0 s1 : Option D} {b e : Int} {K : ES → Prop} : ∀ (xs acc : Sp) (a5 a6 a7 a8 : Option D), acc.length + xs.length ≤ 900000 → (∀ a5 a6 a7 a8, K (.nx, [s0, s1, some (spD .o (acc ++ meetIn b e xs)), some (.int b), some (.int e), a5, a6, a7, a8])) →
    has (evForL (tgTup [5, 6]) bd_meet_spans_0 (xs.map pr) [s0, s1, some (spD .o acc), some (.int b), some (.int e), a5, a6, a7, a8]) K
  | [], acc, a5, a6, a7, a8, hl, h => by simp! []; simp only [meetIn, List.append_nil] at h; exact h _ _ _ _
  | q :: r, acc, a5, a6, a7, a8, hl, h => by
    simp only [List.length_cons] at hl
    have hl2 : (acc.map pr).length < 1000000 := by rw [List.length_map]; omega
    simp! [List.map_cons, forL_s, pr, bd_meet_spans_0]
    by_cases h1 : max b q.1 ≤ min e q.2 <;> simp! [h1] <;> simp only [meetIn, h1, ite_true, ite_false, if_true, if_false, List.nil_append] at h
    · refine ⟨hl2, ?_⟩
      rw [snoc]
      refine lp_meet0 r (acc ++ [(max b q.1, min e q.2)]) _ _ _ _ (by simp; omega) ?_
      simpa using h
    · exact lp_meet0 r acc _ _ _ _ (by omega) h
theorem lp_meet1 {s0 : Option D} {m : Fl} (hm : RO m) {o : Sp} {K : ES → Prop} : ∀ (xs acc : Sp) (a3 a4 a5 a6 a7 a8 : Option D), acc.length + xs.length * o.length ≤ 900000 → (∀ a3 a4 a5 a6 a7 a8, K (.nx, [s0, some (spD m o), some (spD .o (acc ++ meetP xs o)), a3, a4, a5, a6, a7, a8])) →
    has (evForL (tgTup [3, 4]) bd_meet_spans_1 (xs.map pr) [s0, some (spD m o), some (spD .o acc), a3, a4, a5, a6, a7, a8]) K
  | [], acc, a3, a4, a5, a6, a7, a8, hl, h => by simp! []; simp only [meetP, List.append_nil] at h; exact h _ _ _ _ _ _
  | q :: r, acc, a3, a4, a5, a6, a7, a8, hl, h => by
    simp only [List.length_cons, Nat.succ_mul] at hl
    simp! [List.map_cons, forL_s, pr, bd_meet_spans_1, itemsOf_lst hm.1, hm.2]
    refine lp_meet0 o acc _ _ _ _ (by omega) fun a5 a6 a7 a8 => ?_
    simp! []
    refine lp_meet1 hm r (acc ++ meetIn q.1 q.2 o) _ _ _ _ _ _ ?_ ?_
    · have := meetIn_len q.1 q.2 o
      simp only [List.length_append]; omega
    · simpa only [meetP, List.append_assoc] using h
theorem ok_meet {m n : Fl} (hm : RO m) (hn : RO n) (xs o : Sp) (hl : xs.length * o.length ≤ 900000) : F_meet_spans [spD m xs, spD n o] = some (.ok (spD .o (meetP xs o)), [none, none]) := by
  unfold F_meet_spans
  refine fn_go rfl ?_
  show Go ev_meet_spans [some (spD m xs), some (spD n o), none, none, none, none, none, none, none] _
  simp! [ev_meet_spans, itemsOf_lst hm.1, hm.2]
  refine lp_meet1 hn xs [] _ _ _ _ _ _ (by simpa using hl) fun _ _ _ _ _ _ => ?_
  simp! []
  first | rfl | exact ⟨rfl, rfl⟩
def leP (a b : Int × Int) : Bool := decide (a.1 < b.1 ∨ (a.1 = b.1 ∧ a.2 ≤ b.2))
def sortP (xs : Sp) : Sp := xs.mergeSort leP
def leI (a b : Int) : Bool := decide (a ≤ b)
def sortI (xs : List Int) : List Int := xs.mergeSort leI
theorem dp_p (n : Nat) (q : Int × Int) : dp (n + 1) (pr q) = true := by simp [pr, dp, dpL]
theorem sorted_p {m : Fl} (hm : shal m = true) (xs : Sp) (hl : xs.length ≤ 1000000) : gSorted [spD m xs] = some (spD .o (sortP xs)) :=
  v_sorted hm hl (fun a b => leD_p a b) (fun a => dp_p 59 a) (fun a b => by simp [pr, toP, toPL, W.alike, W.alikeAll]) (.inl fun a => by simp [pr, toP, toPL, tup1])
theorem sorted_i {m : Fl} (hm : shal m = true) (xs : List Int) (hl : xs.length ≤ 1000000) : gSorted [miD m xs] = some (miD .o (sortI xs)) :=
  v_sorted hm hl (fun a b => leD_i a b) (fun a => by simp [dp]) (fun a b => by simp [toP, W.alike]) (.inr fun a => by simp [toP, noTup])
def tidyL (c : Int × Int) : Sp → Sp
  | [] => [c]
  | q :: r => if q.1 ≤ c.2 + 1 then tidyL (c.1, max c.2 q.2) r else c :: tidyL q r
def tidyR : Sp → Sp
  | [] => []
  | q :: r => tidyL q r
def tidyP (xs : Sp) : Sp := tidyR (sortP xs)
theorem lp_tidy {s0 : Option D} {K : ES → Prop} : ∀ (xs pre : Sp) (c : Int × Int) (a2 a3 : Option D), pre.length + xs.length ≤ 900000 → (∀ a2 a3, K (.nx, [s0, some (spD .o (pre ++ tidyL c xs)), a2, a3])) →
    has (evForL (tgTup [2, 3]) bd_tidy_0 (xs.map pr) [s0, some (.lst .o (pre.map pr ++ [.tup [.int c.1, .int c.2]])), a2, a3]) K
  | [], pre, c, a2, a3, hl, h => by
    simp! []
    rw [snoc]; exact h _ _
  | q :: r, pre, c, a2, a3, hl, h => by
    simp only [List.length_cons] at hl
    have hl2 : (pre.map pr ++ [D.tup [.int c.1, .int c.2]]).length < 1000000 := by simp; omega
    simp! [List.map_cons, forL_s, pr, bd_tidy_0, at_last, ix_last, set_last, emp_last]
    by_cases h1 : q.1 ≤ c.2 + 1 <;> simp! [h1, at_last, ix_last, set_last, emp_last] <;> simp only [tidyL, h1, ite_true, ite_false, if_true, if_false] at h
    · exact lp_tidy r pre (c.1, max c.2 q.2) _ _ (by omega) h
    · refine ⟨hl2, ?_⟩
      rw [snoc]
      refine lp_tidy r (pre ++ [(c.1, c.2)]) q _ _ (by simp; omega) ?_
      simpa using h
theorem ok_tidy {m : Fl} (hm : shal m = true) (xs : Sp) (hl : xs.length ≤ 900000) : F_tidy [spD m xs] = some (.ok (spD .o (tidyP xs)), [none]) := by
  unfold F_tidy
  refine fn_go rfl ?_
  show Go ev_tidy [some (spD m xs), none, none, none] _
  have e := sorted_p hm xs (by omega)
  have e2 : itemsOf (spD .o (sortP xs)) = some ((sortP xs).map pr) := rfl
  have l : (sortP xs).length = xs.length := List.length_mergeSort _
  simp! [ev_tidy, e, e2]
  unfold tidyP
  cases hs : sortP xs with
  | nil =>
    simp! []
    first | rfl | exact ⟨rfl, rfl⟩
  | cons q r =>
    have hlr : r.length ≤ 900000 - 1 := by
      have := l; rw [hs] at this; simp at this; omega
    simp! [List.map_cons, forL_s, pr, bd_tidy_0, List.isEmpty_nil, Bool.not_true]
    refine ⟨by simp, ?_⟩
    refine lp_tidy r [] q _ _ (by simp; omega) fun _ _ => ?_
    simp! []
    first | rfl | exact ⟨rfl, rfl⟩
theorem cap_pr (q : Int × Int) : cap (pr q) = pr q := rfl
def lengthP (xs : Sp) : Int := (xs.map fun q => q.2 - q.1 + 1).sum
theorem intsOf_map (xs : List Int) : intsOf (xs.map .int) = some xs := by
  induction xs with
  | nil => rfl
  | cons x r ih => rw [List.map_cons, intsOf, ih]; rfl
theorem sum_i {m : Fl} (xs : List Int) : gSum [miD m xs] = some (.int xs.sum) := by
  show (intsOf (xs.map .int)).map _ = _
  rw [intsOf_map]; rfl
theorem ok_length {m : Fl} (hm : RO m) (xs : Sp) (hl : xs.length ≤ 1000) : F_length [spD m xs] = some (.ok (.int (lengthP xs)), [none]) := by
  unfold F_length
  refine fn_go rfl ?_
  show Go ev_length [some (spD m xs), none, none] _
  simp! [ev_length, itemsOf_lst hm.1, hm.2]
  refine has_cmpA (fun q : Int × Int => q.2 - q.1 + 1) .int (fun _ => rfl) xs (by omega) (fun s _ => ?_) ?_
  · simp! [pr, ct_length_0, ce_length_1]
  · simp! [sum_i]
    rfl
theorem meetP_len : ∀ xs o : Sp, (meetP xs o).length ≤ xs.length * o.length
  | [], o => by simp [meetP]
  | q :: r, o => by
    have := meetIn_len q.1 q.2 o
    have := meetP_len r o
    rw [meetP, List.length_append, List.length_cons, Nat.succ_mul]; omega
theorem eq_p {m n : Fl} (xs ys : Sp) : gEq [spD m xs, spD n ys] = some (.bl (decide (xs = ys))) := v_eqL (f := pr) eqD_p (dp_p 58)
theorem ne_p {m n : Fl} (xs ys : Sp) : gNe [spD m xs, spD n ys] = some (.bl (!decide (xs = ys))) := v_neL (f := pr) eqD_p (dp_p 58)
theorem ne_pn {m n : Fl} (xs : Sp) : gNe [spD m xs, .lst n []] = some (.bl (!decide (xs = []))) := v_neNil (f := pr) eqD_p (dp_p 58)
theorem eq_i {m n : Fl} (xs ys : List Int) : gEq [miD m xs, miD n ys] = some (.bl (decide (xs = ys))) := v_eqL (f := .int) eqD_i (fun _ => by simp [dp])
theorem ne_i {m n : Fl} (xs ys : List Int) : gNe [miD m xs, miD n ys] = some (.bl (!decide (xs = ys))) := v_neL (f := .int) eqD_i (fun _ => by simp [dp])
theorem ne_in {m n : Fl} (xs : List Int) : gNe [miD m xs, .lst n []] = some (.bl (!decide (xs = []))) := v_neNil (f := .int) eqD_i (fun _ => by simp [dp])
def mins (lo : Int) (n : Nat) : List Int := (List.range n).map fun k => lo + (k : Nat)
theorem rng2_i (i j : Int) (h : -(2 ^ 62) ≤ i ∧ i < 2 ^ 62 ∧ -(2 ^ 62) ≤ j ∧ j < 2 ^ 62) : rng2Of [.int i, .int j] = some ((mins i (j - i).toNat).map .int) := by
  show (if _ then some (upto i (j - i).toNat) else none) = _
  rw [if_pos h]
  unfold upto mins
  rw [List.map_map]; rfl
theorem rng1_i (j : Int) (h : -(2 ^ 62) ≤ j ∧ j < 2 ^ 62) : rng1Of [.int j] = some ((mins 0 j.toNat).map .int) := by
  show (if _ then some (upto 0 j.toNat) else none) = _
  rw [if_pos h]
  unfold upto mins
  rw [List.map_map]; rfl
theorem mins_len (i : Int) (n : Nat) : (mins i n).length = n := by simp [mins]
theorem cap_i' (i : Int) : cap (.int i) = .int i := rfl
def ofL (c : Int × Int) : List Int → Sp
  | [] => [c]
  | t :: r => if t ≤ c.2 + 1 then ofL (c.1, t) r else c :: ofL (t, t) r
def ofR : List Int → Sp
  | [] => []
  | t :: r => ofL (t, t) r
def ofP (xs : List Int) : Sp := ofR (sortI xs)
theorem nil_last {xs : Sp} {q : Int × Int} : decide (xs ++ [q] = []) = false := by simp
theorem lp_of {s0 : Option D} {K : ES → Prop} : ∀ (xs : List Int) (pre : Sp) (c : Int × Int) (a2 : Option D), pre.length + xs.length ≤ 900000 → (∀ a2, K (.nx, [s0, some (spD .o (pre ++ ofL c xs)), a2])) →
    has (evForL (tgName 2) bd__law_of_0 (xs.map .int) [s0, some (.lst .o (pre.map pr ++ [.tup [.int c.1, .int c.2]])), a2]) K
  | [], pre, c, a2, hl, h => by
    simp! []
    rw [snoc]; exact h _
  | t :: r, pre, c, a2, hl, h => by
    simp only [List.length_cons] at hl
    have hl2 : (pre.map pr ++ [D.tup [.int c.1, .int c.2]]).length < 1000000 := by simp; omega
    have en : gNe [.lst .o (pre.map pr ++ [D.tup [.int c.1, .int c.2]]), .lst .o []] = some (.bl true) := by
      rw [snoc]; exact (ne_pn _).trans (by rw [nil_last]; rfl)
    simp! [List.map_cons, forL_s, bd__law_of_0, at_last, ix_last, set_last, emp_last, en]
    by_cases h1 : t ≤ c.2 + 1 <;> simp! [h1, at_last, ix_last, set_last, emp_last] <;> simp only [ofL, h1, ite_true, ite_false, if_true, if_false] at h
    · exact lp_of r pre (c.1, t) _ (by omega) h
    · refine ⟨hl2, ?_⟩
      rw [snoc]
      refine lp_of r (pre ++ [(c.1, c.2)]) (t, t) _ (by simp; omega) ?_
      simpa using h
theorem ok_of {m : Fl} (hm : shal m = true) (xs : List Int) (hl : xs.length ≤ 900000) : F__law_of [miD m xs] = some (.ok (spD .o (ofP xs)), [none]) := by
  unfold F__law_of
  refine fn_go rfl ?_
  show Go ev__law_of [some (miD m xs), none, none] _
  have e := sorted_i hm xs (by omega)
  have l : (sortI xs).length = xs.length := List.length_mergeSort _
  simp! [ev__law_of, e]
  unfold ofP
  cases hs : sortI xs with
  | nil =>
    simp! []
    first | rfl | exact ⟨rfl, rfl⟩
  | cons q r =>
    have hlr : r.length ≤ 900000 - 1 := by
      have := l; rw [hs] at this; simp at this; omega
    have en : gNe [.lst .o ([] : List D), .lst .o []] = some (.bl false) := by rfl
    simp! [List.map_cons, forL_s, bd__law_of_0, List.isEmpty_nil, Bool.not_true, en]
    refine ⟨by simp, ?_⟩
    refine lp_of r [] (q, q) _ (by simp; omega) fun _ => ?_
    simp! []
    first | rfl | exact ⟨rfl, rfl⟩
end K13
namespace K13
open PySem PD
def on (q : Int × Int) (t : Int) : Prop := q.1 ≤ t ∧ t ≤ q.2
def In (xs : Sp) (t : Int) : Prop := ∃ q ∈ xs, on q t
theorem inP_iff {xs : Sp} {t : Int} : inP xs t = true ↔ In xs t := by
  unfold inP In on
  rw [List.any_eq_true]
  simp only [Bool.and_eq_true, decide_eq_true_eq]
theorem In_nil {t : Int} : ¬ In [] t := fun ⟨q, h, _⟩ => by simp at h
theorem In_cons {q : Int × Int} {r : Sp} {t : Int} : In (q :: r) t ↔ on q t ∨ In r t := by
  unfold In
  simp
theorem In_app {xs ys : Sp} {t : Int} : In (xs ++ ys) t ↔ In xs t ∨ In ys t := by
  unfold In
  simp only [List.mem_append]
  exact ⟨fun ⟨q, h, o⟩ => h.elim (fun h => .inl ⟨q, h, o⟩) fun h => .inr ⟨q, h, o⟩, fun h => h.elim (fun ⟨q, h, o⟩ => ⟨q, .inl h, o⟩) fun ⟨q, h, o⟩ => ⟨q, .inr h, o⟩⟩
/-- in order and apart, from b on -/
def Good (b : Int) : Sp → Prop
  | [] => True
  | q :: r => b ≤ q.1 ∧ q.1 ≤ q.2 ∧ Good (q.2 + 2) r
theorem Good.le {b c : Int} (h : b ≤ c) : ∀ {xs : Sp}, Good c xs → Good b xs
  | [], _ => trivial
  | q :: r, ⟨h1, h2, h3⟩ => ⟨by omega, h2, h3⟩
theorem Good.lo {b : Int} : ∀ {xs : Sp} {t : Int}, Good b xs → In xs t → b ≤ t
  | [], t, _, h => (In_nil h).elim
  | q :: r, t, ⟨h1, h2, h3⟩, h => by
    rcases In_cons.mp h with h | h
    · have := h.1; omega
    · have := Good.lo h3 h; omega
theorem Good.uniq : ∀ {xs ys : Sp} {b c : Int}, Good b xs → Good c ys → (∀ t, In xs t ↔ In ys t) → xs = ys
  | [], [], _, _, _, _, _ => rfl
  | [], q :: r, _, _, _, ⟨_, h2, _⟩, h => ((In_nil ((h q.1).mpr (In_cons.mpr (.inl ⟨Int.le_refl _, h2⟩))))).elim
  | p :: r, [], _, _, ⟨_, h2, _⟩, _, h => ((In_nil ((h p.1).mp (In_cons.mpr (.inl ⟨Int.le_refl _, h2⟩))))).elim
  | p :: r, q :: s, b, c, ⟨p1, p2, p3⟩, ⟨q1, q2, q3⟩, h => by
    have e1 : p.1 = q.1 := by
      have a1 := (h p.1).mp (In_cons.mpr (.inl ⟨Int.le_refl _, p2⟩))
      have a2 := (h q.1).mpr (In_cons.mpr (.inl ⟨Int.le_refl _, q2⟩))
      have l1 : q.1 ≤ p.1 := by
        rcases In_cons.mp a1 with z | z
        · exact z.1
        · have := q3.lo z; omega
      have l2 : p.1 ≤ q.1 := by
        rcases In_cons.mp a2 with z | z
        · exact z.1
        · have := p3.lo z; omega
      omega
    have e2 : p.2 = q.2 := by
      rcases Int.lt_trichotomy p.2 q.2 with l | l | l
      · exfalso
        have a := (h (p.2 + 1)).mpr (In_cons.mpr (.inl ⟨by omega, by omega⟩))
        rcases In_cons.mp a with z | z
        · have := z.2; omega
        · have := p3.lo z; omega
      · exact l
      · exfalso
        have a := (h (q.2 + 1)).mp (In_cons.mpr (.inl ⟨by omega, by omega⟩))
        rcases In_cons.mp a with z | z
        · have := z.2; omega
        · have := q3.lo z; omega
    have e : p = q := Prod.ext e1 e2
    subst e
    have := Good.uniq p3 q3 fun t => by
      constructor
      · intro z
        rcases In_cons.mp ((h t).mp (In_cons.mpr (.inr z))) with y | y
        · have := p3.lo z; have := y.2; omega
        · exact y
      · intro z
        rcases In_cons.mp ((h t).mpr (In_cons.mpr (.inr z))) with y | y
        · have := q3.lo z; have := y.2; omega
        · exact y
    rw [this]
theorem Good.app {b e : Int} {ys : Sp} (hy : Good (e + 2) ys) : ∀ {xs : Sp}, Good b xs → (∀ q ∈ xs, q.2 ≤ e) → b ≤ e + 2 → Good b (xs ++ ys)
  | [], _, _, hb => hy.le hb
  | q :: r, ⟨h1, h2, h3⟩, h, hb => ⟨h1, h2, Good.app hy h3 (fun s hs => h s (List.mem_cons_of_mem _ hs)) (by have := h q List.mem_cons_self; omega)⟩
abbrev Asc (xs : List Int) : Prop := xs.Pairwise (· < ·)
theorem Asc.uniq : ∀ {xs ys : List Int}, Asc xs → Asc ys → (∀ t, t ∈ xs ↔ t ∈ ys) → xs = ys
  | [], [], _, _, _ => rfl
  | [], y :: ys, _, _, h => by have := (h y).mpr List.mem_cons_self; simp at this
  | x :: xs, [], _, _, h => by have := (h x).mp List.mem_cons_self; simp at this
  | x :: xs, y :: ys, hx, hy, h => by
    have hx' := List.pairwise_cons.mp hx
    have hy' := List.pairwise_cons.mp hy
    have e : x = y := by
      have a := (h x).mp List.mem_cons_self
      have b := (h y).mpr List.mem_cons_self
      rcases List.mem_cons.mp a with a | a
      · exact a
      · rcases List.mem_cons.mp b with b | b
        · exact b.symm
        · have := hy'.1 x a; have := hx'.1 y b; omega
    subst e
    have := Asc.uniq hx'.2 hy'.2 fun t => by
      constructor
      · intro z
        rcases List.mem_cons.mp ((h t).mp (List.mem_cons_of_mem _ z)) with y | y
        · have := hx'.1 t z; omega
        · exact y
      · intro z
        rcases List.mem_cons.mp ((h t).mpr (List.mem_cons_of_mem _ z)) with y | y
        · have := hy'.1 t z; omega
        · exact y
    rw [this]
theorem mem_mins {lo t : Int} {n : Nat} : t ∈ mins lo n ↔ lo ≤ t ∧ t < lo + n := by
  unfold mins
  rw [List.mem_map]
  constructor
  · rintro ⟨k, hk, rfl⟩
    have := List.mem_range.mp hk
    omega
  · rintro ⟨h1, h2⟩
    exact ⟨(t - lo).toNat, List.mem_range.mpr (by omega), by omega⟩
theorem mins_asc (lo : Int) (n : Nat) : Asc (mins lo n) := by
  unfold mins Asc
  rw [List.pairwise_map]
  exact List.pairwise_lt_range.imp fun h => by omega
def exP : Sp → List Int
  | [] => []
  | q :: r => mins q.1 (q.2 - q.1 + 1).toNat ++ exP r
theorem mem_ex : ∀ {b : Int} {xs : Sp} {t : Int}, Good b xs → (t ∈ exP xs ↔ In xs t)
  | _, [], t, _ => ⟨fun h => by simp [exP] at h, fun h => (In_nil h).elim⟩
  | b, q :: r, t, ⟨h1, h2, h3⟩ => by
    rw [exP, List.mem_append, mem_ex h3, In_cons, mem_mins]
    unfold on
    constructor
    · rintro (h | h)
      · exact .inl ⟨h.1, by omega⟩
      · exact .inr h
    · rintro (h | h)
      · exact .inl ⟨h.1, by omega⟩
      · exact .inr h
theorem ex_asc : ∀ {b : Int} {xs : Sp}, Good b xs → Asc (exP xs)
  | _, [], _ => List.Pairwise.nil
  | b, q :: r, ⟨h1, h2, h3⟩ => by
    rw [exP]
    refine List.pairwise_append.mpr ⟨mins_asc _ _, ex_asc h3, fun x hx y hy => ?_⟩
    have := mem_mins.mp hx
    have := h3.lo ((mem_ex h3).mp hy)
    omega
theorem len_ex : ∀ {b : Int} {xs : Sp}, Good b xs → lengthP xs = (exP xs).length
  | _, [], _ => rfl
  | b, q :: r, ⟨h1, h2, h3⟩ => by
    have := len_ex h3
    unfold lengthP at this ⊢
    rw [List.map_cons, List.sum_cons, this, exP, List.length_append, mins_len]
    omega
theorem meetIn_good {b e : Int} (hbe : b ≤ e) : ∀ {c : Int} {ys : Sp}, Good c ys → Good (max b c) (meetIn b e ys) ∧ (∀ q ∈ meetIn b e ys, q.2 ≤ e) ∧ ∀ t, In (meetIn b e ys) t ↔ (b ≤ t ∧ t ≤ e) ∧ In ys t
  | c, [], _ => ⟨trivial, fun q h => by simp [meetIn] at h, fun t => ⟨fun h => (In_nil h).elim, fun h => (In_nil h.2).elim⟩⟩
  | c, q :: r, ⟨h1, h2, h3⟩ => by
    obtain ⟨g1, g2, g3⟩ := meetIn_good hbe h3
    rw [meetIn]
    by_cases h : max b q.1 ≤ min e q.2
    · rw [if_pos h]
      refine ⟨⟨by simp only; omega, h, g1.le (by simp only; omega)⟩, fun s hs => ?_, fun t => ?_⟩
      · rcases List.mem_cons.mp hs with hs | hs
        · rw [hs]; simp only; omega
        · exact g2 s hs
      · rw [List.singleton_append, In_cons, In_cons, g3]
        unfold on
        simp only
        constructor
        · rintro (⟨z1, z2⟩ | ⟨z1, z2⟩)
          · exact ⟨by omega, .inl (by omega)⟩
          · exact ⟨z1, .inr z2⟩
        · rintro ⟨z1, z2 | z2⟩
          · exact .inl (by omega)
          · exact .inr ⟨z1, z2⟩
    · rw [if_neg h, List.nil_append]
      refine ⟨g1.le (by omega), g2, fun t => ?_⟩
      rw [g3, In_cons]
      unfold on
      constructor
      · rintro ⟨z1, z2⟩; exact ⟨z1, .inr z2⟩
      · rintro ⟨z1, z2 | z2⟩
        · omega
        · exact ⟨z1, z2⟩
theorem meet_good {c : Int} {ys : Sp} (hy : Good c ys) : ∀ {b : Int} {xs : Sp}, Good b xs → Good b (meetP xs ys) ∧ ∀ t, In (meetP xs ys) t ↔ In xs t ∧ In ys t
  | b, [], _ => ⟨trivial, fun t => ⟨fun h => (In_nil h).elim, fun h => (In_nil h.1).elim⟩⟩
  | b, q :: r, ⟨h1, h2, h3⟩ => by
    obtain ⟨g1, g2⟩ := meet_good hy h3
    obtain ⟨k1, k2, k3⟩ := meetIn_good h2 hy
    rw [meetP]
    refine ⟨Good.app g1 (k1.le (by omega)) k2 (by omega), fun t => ?_⟩
    rw [In_app, g2, k3, In_cons]
    unfold on
    constructor
    · rintro (⟨z1, z2⟩ | ⟨z1, z2⟩)
      · exact ⟨.inl z1, z2⟩
      · exact ⟨.inr z1, z2⟩
    · rintro ⟨z1 | z1, z2⟩
      · exact .inl ⟨z1, z2⟩
      · exact .inr ⟨z1, z2⟩
theorem tidyL_good : ∀ {c : Int × Int} {r : Sp}, c.1 ≤ c.2 → (∀ q ∈ r, c.1 ≤ q.1 ∧ q.1 ≤ q.2) → r.Pairwise (fun p q => p.1 ≤ q.1) → Good c.1 (tidyL c r) ∧ ∀ t, In (tidyL c r) t ↔ on c t ∨ In r t
  | c, [], h1, _, _ => ⟨⟨Int.le_refl _, h1, trivial⟩, fun t => by rw [tidyL, In_cons]⟩
  | c, q :: r, h1, h2, h3 => by
    have hq := h2 q List.mem_cons_self
    have h3' := List.pairwise_cons.mp h3
    rw [tidyL]
    by_cases h : q.1 ≤ c.2 + 1
    · rw [if_pos h]
      obtain ⟨g1, g2⟩ := tidyL_good (c := (c.1, max c.2 q.2)) (r := r) (by simp only; omega) (fun s hs => h2 s (List.mem_cons_of_mem _ hs)) h3'.2
      refine ⟨g1, fun t => ?_⟩
      rw [g2, In_cons]
      unfold on
      simp only
      constructor
      · rintro (z | z)
        · by_cases y : t ≤ c.2
          · exact .inl ⟨z.1, y⟩
          · exact .inr (.inl (by omega))
        · exact .inr (.inr z)
      · rintro (z | z | z)
        · exact .inl (by omega)
        · exact .inl (by omega)
        · exact .inr z
    · rw [if_neg h]
      obtain ⟨g1, g2⟩ := tidyL_good (c := q) (r := r) hq.2 (fun s hs => ⟨h3'.1 s hs, (h2 s (List.mem_cons_of_mem _ hs)).2⟩) h3'.2
      refine ⟨⟨Int.le_refl _, h1, g1.le (by omega)⟩, fun t => ?_⟩
      rw [In_cons, g2, In_cons]
theorem leP_trans : ∀ a b c : Int × Int, leP a b = true → leP b c = true → leP a c = true := by
  intro a b c
  unfold leP
  simp only [decide_eq_true_eq]
  omega
theorem leP_total : ∀ a b : Int × Int, (leP a b || leP b a) = true := by
  intro a b
  unfold leP
  rw [Bool.or_eq_true, decide_eq_true_eq, decide_eq_true_eq]
  omega
theorem In_perm {xs ys : Sp} (h : ∀ q, q ∈ xs ↔ q ∈ ys) (t : Int) : In xs t ↔ In ys t := by
  unfold In
  exact ⟨fun ⟨q, a, b⟩ => ⟨q, (h q).mp a, b⟩, fun ⟨q, a, b⟩ => ⟨q, (h q).mpr a, b⟩⟩
theorem tidy_good {xs : Sp} (h : ∀ q ∈ xs, q.1 ≤ q.2) : (∃ b, Good b (tidyP xs)) ∧ ∀ t, In (tidyP xs) t ↔ In xs t := by
  have hm : ∀ q, q ∈ sortP xs ↔ q ∈ xs := fun q => (List.mergeSort_perm xs leP).mem_iff
  have hs : (sortP xs).Pairwise (fun p q => p.1 ≤ q.1) := (List.pairwise_mergeSort leP_trans leP_total xs).imp fun {a b} h => by
    unfold leP at h
    rw [decide_eq_true_eq] at h
    omega
  have hi := In_perm hm
  unfold tidyP
  cases e : sortP xs with
  | nil =>
    rw [e] at hi
    exact ⟨⟨0, trivial⟩, hi⟩
  | cons q r =>
    rw [e] at hi hs hm
    have hs' := List.pairwise_cons.mp hs
    obtain ⟨g1, g2⟩ := tidyL_good (c := q) (r := r) (h q ((hm q).mp List.mem_cons_self)) (fun s z => ⟨hs'.1 s z, h s ((hm s).mp (List.mem_cons_of_mem _ z))⟩) hs'.2
    refine ⟨⟨_, g1⟩, fun t => ?_⟩
    rw [tidyR, g2, ← In_cons]
    exact hi t
theorem ofL_good : ∀ {c : Int × Int} {r : List Int}, c.1 ≤ c.2 → (∀ t ∈ r, c.2 ≤ t) → r.Pairwise (· ≤ ·) → Good c.1 (ofL c r) ∧ ∀ t, In (ofL c r) t ↔ on c t ∨ t ∈ r
  | c, [], h1, _, _ => ⟨⟨Int.le_refl _, h1, trivial⟩, fun t => by rw [ofL, In_cons]; simp [In_nil]⟩
  | c, v :: r, h1, h2, h3 => by
    have hv := h2 v List.mem_cons_self
    have h3' := List.pairwise_cons.mp h3
    rw [ofL]
    by_cases h : v ≤ c.2 + 1
    · rw [if_pos h]
      obtain ⟨g1, g2⟩ := ofL_good (c := (c.1, v)) (r := r) (by simp only; omega) (fun s hs => h3'.1 s hs) h3'.2
      refine ⟨g1, fun t => ?_⟩
      rw [g2, List.mem_cons]
      unfold on
      simp only
      constructor
      · rintro (z | z)
        · by_cases y : t ≤ c.2
          · exact .inl ⟨z.1, y⟩
          · exact .inr (.inl (by omega))
        · exact .inr (.inr z)
      · rintro (z | z | z)
        · exact .inl (by omega)
        · exact .inl (by omega)
        · exact .inr z
    · rw [if_neg h]
      obtain ⟨g1, g2⟩ := ofL_good (c := (v, v)) (r := r) (Int.le_refl _) (fun s hs => h3'.1 s hs) h3'.2
      refine ⟨⟨Int.le_refl _, h1, g1.le (by simp only; omega)⟩, fun t => ?_⟩
      rw [In_cons, g2, List.mem_cons]
      unfold on
      simp only
      constructor
      · rintro (z | z | z)
        · exact .inl z
        · exact .inr (.inl (by omega))
        · exact .inr (.inr z)
      · rintro (z | z | z)
        · exact .inl z
        · exact .inr (.inl (by omega))
        · exact .inr (.inr z)
theorem of_good (xs : List Int) : (∃ b, Good b (ofP xs)) ∧ ∀ t, In (ofP xs) t ↔ t ∈ xs := by
  have hm : ∀ q, q ∈ sortI xs ↔ q ∈ xs := fun q => (List.mergeSort_perm xs leI).mem_iff
  have hs : (sortI xs).Pairwise (· ≤ ·) := (List.pairwise_mergeSort (le := leI) (fun a b c h1 h2 => by unfold leI at *; rw [decide_eq_true_eq] at *; omega) (fun a b => by unfold leI; rw [Bool.or_eq_true, decide_eq_true_eq, decide_eq_true_eq]; omega) xs).imp fun {a b} h => by
    unfold leI at h
    rw [decide_eq_true_eq] at h
    exact h
  unfold ofP
  cases e : sortI xs with
  | nil =>
    rw [e] at hm
    exact ⟨⟨0, trivial⟩, fun t => ⟨fun h => (In_nil h).elim, fun h => by have := (hm t).mpr h; simp at this⟩⟩
  | cons v r =>
    rw [e] at hs hm
    have hs' := List.pairwise_cons.mp hs
    obtain ⟨g1, g2⟩ := ofL_good (c := (v, v)) (r := r) (Int.le_refl _) (fun s hs => hs'.1 s hs) hs'.2
    refine ⟨⟨_, g1⟩, fun t => ?_⟩
    rw [ofR, g2, ← hm t, List.mem_cons]
    unfold on
    simp only
    constructor
    · rintro (z | z)
      · exact .inl (by omega)
      · exact .inr z
    · rintro (z | z)
      · exact .inl (by omega)
      · exact .inr z
/-- good spans are those of their minutes -/
theorem of_eq {b : Int} {xs : Sp} {ms : List Int} (g : Good b xs) (h : ∀ t, In xs t ↔ t ∈ ms) : xs = ofP ms := by
  obtain ⟨⟨c, g1⟩, g2⟩ := of_good ms
  exact g.uniq g1 fun t => by rw [h, g2]
end K13
namespace K13
open PySem PD
local macro_rules | `(tactic| simp! [$xs,*]) => `(tactic| simp only [e_cst, e_nil, e_yes, e_var, e_fv, e_mv, e_cons, e_dfr, e_op, e_tup, e_lst, e_tr, e_notT, e_andT, e_orT, e_andV, e_orV, e_notV, e_opq, e_if, e_call, e_callM, e_chain, e_src, e_rng, e_lc, g_nx, g_retN, g_brk, g_cnt, g_seq, g_drop, g_ret, g_asg, g_if, g_for, g_app, g_set, kk_ok, kS_ok, kQ_nx, kQ_rt, kQ_bk, kQ_ct, kk_ex, kS_ex, kQ_ex, g_raise, e_isi, g_asgT, e_grd, g_try, g_tryAs, g_appT, e_chainN, lkQ_1, lkQ_2, noX_rt, noX_nx, noX_bk, noX_ct, hdQ_0, hdQ_s, tryQ_ex, tryQ_rt, tryQ_nx, tryQ_bk, tryQ_ct, tasQ_ex, tasQ_rt, tasQ_nx, tasQ_bk, tasQ_ct, e_attr, g_setF, g_appF, e_meth, e_methM, e_make, g_asgL, mkQ_ok, mkQ_ex, e_dnew, g_dput, g_dputF, g_ddelF, g_ddel, g_dpopS, e_keys, e_isC, has_some, sl_0, sl_s, st_0, st_s, v_add, v_sub, v_neg, v_lt, v_le, v_gt, v_ge, v_eqi, v_nei, v_is, v_isNot, v_len, v_lenT, v_abs, v_int, v_intB, v_item, v_itemT, v_list, v_max, v_min, v_repr, blD_bl, truD_bl, truD_lst, isF_int, isF_bl, isF_non, isF_tup, isF_str, isF_lf, isF_lk, isF_lo, isF_ll, at_0, at_1, at_2, at_3, at_4, at_5, ix_0, ix_1, ix_2, cap_i, cap_t, noL_i, noL_n, noL_b, noL_t, ck_0, ck_s, lk_0, lk_1, lk_2, lk_3, lk_4, ln_0, ln_1, ln_2, ln_3, ln_4, own_o, own_l, own_f, its_o, its_l, its_f, lend_o, lend_i, lend_b, lend_n, lend_s, lend_t, cap_k, cap_f, lend_l, lend_f, sh_o, sh_l, sh_f, sh_k, Bool.or_true, Bool.true_or, Bool.or_false, Bool.false_or, intD, isLst, lstO, List.set_cons_zero, List.set_cons_succ, bind_S, ty_i, ty_b, ty_s, ty_t, ty_l, ty_n, is_ii, is_ib, is_is, is_it, is_il, is_bi, is_bb, is_bs, is_bt, is_bl, is_si, is_sb, is_ss, is_st, is_sl, is_ti, is_tb, is_ts, is_tt, is_tl, is_li, is_lb, is_ls, is_lt, is_ll, is_ni, is_nb, is_ns, is_nt, is_nl, v_eqS, v_neS, v_inS, v_notInS, truD_n, truD_t, cap_o, cap_s, cap_n, cap_b, noL_s, its_t, own_t, own_s, its_s, sv_n, sv_i, sv_s, sv_b, isStr_s, isNon_n, isNon_i, isNon_s, isNon_t, isNon_l, v_tup, noL_lo, noL_lf, frz_lo, frz_lf, insOf_s, insO_s, isIns_s, lstS_o, lstS_l, lstS_f, v_rev, lend_ioo, lend_ill, lend_if, lendN_0, lendN_s, frzN_0, frzN_s, cap_ioo, cap_if, frz_ioo, isF_ioo, isF_ill, isF_if, lstO_o, lk_00, pu_00, lk_01, pu_01, lk_02, pu_02, lk_03, pu_03, lk_04, pu_04, lk_05, pu_05, lk_06, pu_06, lk_10, pu_10, lk_11, pu_11, lk_12, pu_12, lk_13, pu_13, lk_14, pu_14, lk_15, pu_15, lk_16, pu_16, lk_20, pu_20, lk_21, pu_21, lk_22, pu_22, lk_23, pu_23, lk_24, pu_24, lk_25, pu_25, lk_26, pu_26, lk_30, pu_30, lk_31, pu_31, lk_32, pu_32, lk_33, pu_33, lk_34, pu_34, lk_35, pu_35, lk_36, pu_36, lk_40, pu_40, lk_41, pu_41, lk_42, pu_42, lk_43, pu_43, lk_44, pu_44, lk_45, pu_45, lk_46, pu_46, lk_50, pu_50, lk_51, pu_51, lk_52, pu_52, lk_53, pu_53, lk_54, pu_54, lk_55, pu_55, lk_56, pu_56, lk_60, pu_60, lk_61, pu_61, lk_62, pu_62, lk_63, pu_63, lk_64, pu_64, lk_65, pu_65, lk_66, pu_66, pu_n, l3_0, l3_1, l3_2, l3_3, l3_4, l3_5, l3_6, l3_7, dcO_o, key_s, key_i, isDic_d, isF_do, isF_dl, isF_df, lend_do, lend_dl, lend_df, frz_do, frz_df, cap_do, cap_df, noL_do, noL_df, own_d, v_itemUl, v_itemUt, v_inUl, v_inUt, v_notInUl, v_notInUt, v_inUs, v_inUi, v_notInUs, v_notInUi, v_lenUd, v_lenUl, v_lenUt, v_sortedUl, noL_ioo, noL_if, noL_ill, noLN_0, noLN_s, isC_1, isC_int, dcS_o, dcS_l, dcS_f, forL_0, kL_nx, kL_ct, kL_bk, kL_rt, kL_ex, tg_n, tg_t, tg_0, tg_s, wp_0, wp_s, bk_0, bk_s, rd_0, rd_s, sb_a, sb_l, si_a, si_l, hd_0, out_t, out_f, argD, ite_self, List.map_cons, List.map_nil, List.append_nil, List.cons_append, List.nil_append, Bool.and_true, Bool.true_and, Bool.not_true, Bool.not_false, Bool.and_false, Bool.false_and, true_and, and_true, decide_eq_true_eq, Bool.false_eq_true, if_false, if_true, ite_true, ite_false, reduceIte, Bool.not_eq_true', Bool.true_eq_false, eq_self, $xs,*])
/-! numbers -/
theorem ok_isnum (v lo hi : Int) : F_is_number [.int v, .int lo, .int hi] = some (.ok (.bl (decide (lo ≤ v) && decide (v ≤ hi))), [none, none, none]) := by
  unfold F_is_number
  refine fn_go rfl ?_
  show Go ev_is_number [some (.int v), some (.int lo), some (.int hi)] _
  simp! [ev_is_number]
  by_cases h : lo ≤ v <;> simp! [h, decide_true, decide_false] <;> rfl
theorem ok_chk (v lo hi : Int) (h1 : 0 ≤ lo ∧ lo < 10 ^ 15) (h2 : 0 ≤ hi ∧ hi < 10 ^ 15) : F_checked_number [.int v, .int lo, .int hi] = some (if lo ≤ v ∧ v ≤ hi then .ok (.int v) else .ex ⟨1, []⟩, [none, none, none]) := by
  unfold F_checked_number
  refine fn_go rfl ?_
  show Go ev_checked_number [some (.int v), some (.int lo), some (.int hi)] _
  have e := ok_isnum v lo hi
  have l1 := str_len h1.1 (by decide) h1.2
  have l2 := str_len h2.1 (by decide) h2.2
  have a1 : (Str.ofString "no number from ").length = 15 := by decide +kernel
  have a2 : (Str.ofString " to ").length = 4 := by decide +kernel
  have s0 : gStrOf [.int lo] = some (.str (toString lo)) := v_strI (by omega)
  have s1 : gStrOf [.int hi] = some (.str (toString hi)) := v_strI (by omega)
  have t1 : gAdd [.str (Str.ofString "no number from "), .str (toString lo)] = some (.str (Str.ofString "no number from " ++ toString lo)) := v_addS (by omega)
  have t2 : gAdd [.str (Str.ofString "no number from " ++ toString lo), .str (Str.ofString " to ")] = some (.str (Str.ofString "no number from " ++ toString lo ++ Str.ofString " to ")) := v_addS (by rw [len_cat]; omega)
  have t3 : gAdd [.str (Str.ofString "no number from " ++ toString lo ++ Str.ofString " to "), .str (toString hi)] = some (.str (Str.ofString "no number from " ++ toString lo ++ Str.ofString " to " ++ toString hi)) := v_addS (by rw [len_cat, len_cat]; omega)
  simp! [ev_checked_number, e]
  by_cases h1 : lo ≤ v <;> by_cases h2 : v ≤ hi <;> simp! [h1, h2, decide_true, decide_false, s0, s1, t1, t2, t3] <;> rfl
/-! tides: the points -/
def Pt (q : Int × Int) : Prop := 0 ≤ q.1 ∧ q.1 ≤ 20000 ∧ 0 ≤ q.2 ∧ q.2 ≤ 1000000
abbrev AscP (ps : Sp) : Prop := ps.Pairwise fun p q => p.1 < q.1
structure Pts (ps : Sp) : Prop where
  ne : ps ≠ []
  le : ps.length ≤ 60
  asc : AscP ps
  pt : ∀ q ∈ ps, Pt q
abbrev tiD (m l : Fl) (ps : Sp) : D := .ins m 3 [(0, spD l ps)]
theorem lp_tinit {s1 : Option D} {K : ES → Prop} : ∀ (xs acc : Sp) (a b : Option D), acc.length + xs.length ≤ 1000 → AscP (acc ++ xs) → (∀ q ∈ xs, Pt q) → (∀ a b, K (.nx, [some (tiD .oo .o (acc ++ xs)), s1, a, b])) →
    has (evForL (tgTup [2, 3]) bd_Tide____init___0 (xs.map pr) [some (tiD .oo .o acc), s1, a, b]) K
  | [], acc, a, b, hl, ha, hp, h => by
    simp! []
    have := h a b
    simpa using this
  | q :: r, acc, a, b, hl, ha, hp, h => by
    simp only [List.length_cons] at hl
    obtain ⟨p1, p2, p3, p4⟩ := hp q List.mem_cons_self
    have hl2 : (acc.map pr).length < 1000000 := by rw [List.length_map]; omega
    have e1 := ok_chk q.1 0 20000 (by decide) (by decide)
    have e2 := ok_chk q.2 0 1000000 (by decide) (by decide)
    rw [if_pos ⟨p1, p2⟩] at e1
    rw [if_pos ⟨p3, p4⟩] at e2
    have fin : ∀ a b, has (evForL (tgTup [2, 3]) bd_Tide____init___0 (r.map pr) [some (tiD .oo .o (acc ++ [q])), s1, a, b]) K := fun a b =>
      lp_tinit r (acc ++ [q]) a b (by simp; omega) (by simpa using ha) (fun x hx => hp x (List.mem_cons_of_mem _ hx)) (by simpa using h)
    rcases List.eq_nil_or_concat acc with rfl | ⟨pre, c, ec⟩
    · simp! [List.map_cons, forL_s, pr, bd_Tide____init___0, e1, e2, g_drop, List.isEmpty_nil]
      exact ⟨by simp, fin _ _⟩
    · rw [List.concat_eq_append] at ec
      subst ec
      have hc : c.1 < q.1 := (List.pairwise_append.mp ha).2.2 c (by simp) q (by simp)
      have hc2 : ¬ q.1 ≤ c.1 := by omega
      have hl3 : ((pre.map pr) ++ [pr c]).length < 1000000 := by simpa using hl2
      simp! [List.map_cons, List.map_append, List.map_nil, forL_s, pr, bd_Tide____init___0, e1, e2, g_drop, at_last, emp_last, hc2, decide_false]
      refine ⟨hl3, ?_⟩
      have e : (pre.map pr ++ [D.tup [D.int c.fst, D.int c.snd]] ++ [D.tup [D.int q.fst, D.int q.snd]]) = (pre ++ [c] ++ [q]).map pr := by simp [pr]
      rw [e]
      exact fin _ _
theorem ok_tinit {m : Fl} (hm : RO m) {ps : Sp} (h : Pts ps) : F_Tide____init__ [.ins .oo 3 [], spD m ps] = some (.ok .non, [some (tiD .oo .o ps), none]) := by
  unfold F_Tide____init__
  refine fn_go rfl ?_
  show Go ev_Tide____init__ [some (.ins .oo 3 []), some (spD m ps), none, none] _
  have hl := h.le
  have e0 : (ps.map pr).isEmpty = false := by
    cases ps with
    | nil => exact absurd rfl h.ne
    | cons q r => rfl
  have e1 : ¬ (60 : Int) < (ps.map pr).length := by rw [List.length_map]; omega
  simp! [ev_Tide____init__, e0, e1, decide_false, itemsOf_lst hm.1, hm.2]
  refine lp_tinit ps [] _ _ (by simp; omega) (by simpa using h.asc) h.pt fun a b => ?_
  simp! []
  first | rfl | exact ⟨rfl, rfl⟩
/-- a tide that is read -/
structure Ti (d : D) (l : Fl) (ps : Sp) : Prop where
  ex : ∃ m, d = tiD m l ps
  ro : RO l
  ld : lend d = d
theorem Ti.l {ps : Sp} : Ti (tiD .ll .l ps) .l ps := ⟨⟨_, rfl⟩, RO.l, rfl⟩
theorem Ti.f {ps : Sp} : Ti (tiD .f .f ps) .f ps := ⟨⟨_, rfl⟩, RO.f, rfl⟩
theorem ok_points {d : D} {l : Fl} {ps : Sp} (h : Ti d l ps) : F_Tide__points [d] = some (.ok (spD .o ps), [none]) := by
  obtain ⟨⟨m, rfl⟩, hr, hl⟩ := h
  unfold F_Tide__points
  refine fn_go rfl ?_
  show Go ev_Tide__points [some (tiD m l ps)] _
  simp! [ev_Tide__points, hr.1]
  first | rfl | exact ⟨rfl, rfl⟩
/-! heights -/
def btw (p q : Int × Int) (t : Int) : Int := p.2 + (q.2 - p.2) * (t - p.1) / (q.1 - p.1)
def G (p : Int × Int) : Sp → Int → Int
  | [], _ => p.2
  | q :: r, t => if t < q.1 then btw p q t else G q r t
def H : Sp → Int → Int
  | [], _ => 0
  | p :: r, t => if t < p.1 then p.2 else G p r t
theorem mulS {i j : Int} (h : -(1000000) ≤ i ∧ i ≤ 1000000) : gMul [.int i, .int j] = some (.int (i * j)) := v_mul (mulL (by rw [Bool.and_eq_true, decide_eq_true_eq, decide_eq_true_eq]; omega))
theorem ok_between {p q : Int × Int} (t : Int) (hp : Pt p) (hq : Pt q) (hpq : p.1 < q.1) : F__between [pr p, pr q, .int t] = some (.ok (.int (btw p q t)), [none, none, none]) := by
  unfold F__between
  obtain ⟨p1, p2, p3, p4⟩ := hp
  obtain ⟨q1, q2, q3, q4⟩ := hq
  refine fn_go rfl ?_
  show Go ev__between [some (pr p), some (pr q), some (.int t), none] _
  simp! [ev__between, pr, mulS (i := q.2 - p.2) (j := t - p.1) ⟨by omega, by omega⟩, v_div (i := (q.2 - p.2) * (t - p.1)) (j := q.1 - p.1) ⟨by omega, by omega⟩]
  first | rfl | exact ⟨rfl, rfl⟩
theorem lend_pr (q : Int × Int) : lend (pr q) = pr q := rfl
theorem lp_height {s0 : Option D} {t : Int} {K : ES → Prop} : ∀ (xs : Sp) (p : Int × Int) (a : Option D), p.1 ≤ t → AscP (p :: xs) → (∀ q ∈ p :: xs, Pt q) → (∀ (p' : Int × Int) a, p'.2 = G p xs t → K (.nx, [s0, some (.int t), some (pr p'), a])) → (∀ a b, K (.rt (.int (G p xs t)), [s0, some (.int t), b, a])) →
    has (evForL (tgName 3) bd_Tide__height_0 (xs.map pr) [s0, some (.int t), some (pr p), a]) K
  | [], p, a, ht, ha, hp, h1, h2 => by
    simp! []
    exact h1 p a rfl
  | q :: r, p, a, ht, ha, hp, h1, h2 => by
    have hpq : p.1 < q.1 := (List.pairwise_cons.mp ha).1 q List.mem_cons_self
    have nt : ¬ t < p.1 := by omega
    have eb := ok_between t (hp p List.mem_cons_self) (hp q (by simp)) hpq
    simp only [pr] at eb
    by_cases hq : t < q.1
    · simp! [List.map_cons, forL_s, bd_Tide__height_0, pr, hq, decide_true, nt, decide_false, eb]
      rw [G, if_pos hq] at h2
      exact h2 _ _
    · simp! [List.map_cons, forL_s, bd_Tide__height_0, pr, hq, decide_false]
      rw [G, if_neg hq] at h1 h2
      exact lp_height r q _ (by omega) (List.pairwise_cons.mp ha).2 (fun x hx => hp x (List.mem_cons_of_mem _ hx)) h1 h2
theorem ok_height {d : D} {l : Fl} {ps : Sp} (h : Ti d l ps) (hp : Pts ps) (t : Int) : F_Tide__height [d, .int t] = some (.ok (.int (H ps t)), [none, none]) := by
  obtain ⟨⟨m, rfl⟩, hr, hl⟩ := h
  cases ps with
  | nil => exact absurd rfl hp.ne
  | cons p r =>
    have hpt := hp.pt
    have hasc := hp.asc
    unfold F_Tide__height
    refine fn_go rfl ?_
    show Go ev_Tide__height [some (tiD m l (p :: r)), some (.int t), none, none] _
    by_cases ht : t < p.1
    · simp! [ev_Tide__height, List.map_cons, pr, hr.1, hr.2, itemsOf_lst hr.1, forL_s, bd_Tide__height_0, ht, decide_true]
      rw [H, if_pos ht]
      first | rfl | exact ⟨rfl, rfl⟩
    · simp! [ev_Tide__height, List.map_cons, pr, hr.1, hr.2, itemsOf_lst hr.1, forL_s, bd_Tide__height_0, ht, decide_false]
      rw [H, if_neg ht]
      refine lp_height r p _ (by omega) hasc hpt (fun p' a e => ?_) (fun a b => ?_)
      · simp! [pr, e]
        first | rfl | exact ⟨rfl, rfl⟩
      · simp! []
        first | rfl | exact ⟨rfl, rfl⟩
end K13
namespace K13
open PySem PD
local macro_rules | `(tactic| simp! [$xs,*]) => `(tactic| simp only [e_cst, e_nil, e_yes, e_var, e_fv, e_mv, e_cons, e_dfr, e_op, e_tup, e_lst, e_tr, e_notT, e_andT, e_orT, e_andV, e_orV, e_notV, e_opq, e_if, e_call, e_callM, e_chain, e_src, e_rng, e_lc, g_nx, g_retN, g_brk, g_cnt, g_seq, g_drop, g_ret, g_asg, g_if, g_for, g_app, g_set, kk_ok, kS_ok, kQ_nx, kQ_rt, kQ_bk, kQ_ct, kk_ex, kS_ex, kQ_ex, g_raise, e_isi, g_asgT, e_grd, g_try, g_tryAs, g_appT, e_chainN, lkQ_1, lkQ_2, noX_rt, noX_nx, noX_bk, noX_ct, hdQ_0, hdQ_s, tryQ_ex, tryQ_rt, tryQ_nx, tryQ_bk, tryQ_ct, tasQ_ex, tasQ_rt, tasQ_nx, tasQ_bk, tasQ_ct, e_attr, g_setF, g_appF, e_meth, e_methM, e_make, g_asgL, mkQ_ok, mkQ_ex, e_dnew, g_dput, g_dputF, g_ddelF, g_ddel, g_dpopS, e_keys, e_isC, has_some, sl_0, sl_s, st_0, st_s, v_add, v_sub, v_neg, v_lt, v_le, v_gt, v_ge, v_eqi, v_nei, v_is, v_isNot, v_len, v_lenT, v_abs, v_int, v_intB, v_item, v_itemT, v_list, v_max, v_min, v_repr, blD_bl, truD_bl, truD_lst, isF_int, isF_bl, isF_non, isF_tup, isF_str, isF_lf, isF_lk, isF_lo, isF_ll, at_0, at_1, at_2, at_3, at_4, at_5, ix_0, ix_1, ix_2, cap_i, cap_t, noL_i, noL_n, noL_b, noL_t, ck_0, ck_s, lk_0, lk_1, lk_2, lk_3, lk_4, ln_0, ln_1, ln_2, ln_3, ln_4, own_o, own_l, own_f, its_o, its_l, its_f, lend_o, lend_i, lend_b, lend_n, lend_s, lend_t, cap_k, cap_f, lend_l, lend_f, sh_o, sh_l, sh_f, sh_k, Bool.or_true, Bool.true_or, Bool.or_false, Bool.false_or, intD, isLst, lstO, List.set_cons_zero, List.set_cons_succ, bind_S, ty_i, ty_b, ty_s, ty_t, ty_l, ty_n, is_ii, is_ib, is_is, is_it, is_il, is_bi, is_bb, is_bs, is_bt, is_bl, is_si, is_sb, is_ss, is_st, is_sl, is_ti, is_tb, is_ts, is_tt, is_tl, is_li, is_lb, is_ls, is_lt, is_ll, is_ni, is_nb, is_ns, is_nt, is_nl, v_eqS, v_neS, v_inS, v_notInS, truD_n, truD_t, cap_o, cap_s, cap_n, cap_b, noL_s, its_t, own_t, own_s, its_s, sv_n, sv_i, sv_s, sv_b, isStr_s, isNon_n, isNon_i, isNon_s, isNon_t, isNon_l, v_tup, noL_lo, noL_lf, frz_lo, frz_lf, insOf_s, insO_s, isIns_s, lstS_o, lstS_l, lstS_f, v_rev, lend_ioo, lend_ill, lend_if, lendN_0, lendN_s, frzN_0, frzN_s, cap_ioo, cap_if, frz_ioo, isF_ioo, isF_ill, isF_if, lstO_o, lk_00, pu_00, lk_01, pu_01, lk_02, pu_02, lk_03, pu_03, lk_04, pu_04, lk_05, pu_05, lk_06, pu_06, lk_10, pu_10, lk_11, pu_11, lk_12, pu_12, lk_13, pu_13, lk_14, pu_14, lk_15, pu_15, lk_16, pu_16, lk_20, pu_20, lk_21, pu_21, lk_22, pu_22, lk_23, pu_23, lk_24, pu_24, lk_25, pu_25, lk_26, pu_26, lk_30, pu_30, lk_31, pu_31, lk_32, pu_32, lk_33, pu_33, lk_34, pu_34, lk_35, pu_35, lk_36, pu_36, lk_40, pu_40, lk_41, pu_41, lk_42, pu_42, lk_43, pu_43, lk_44, pu_44, lk_45, pu_45, lk_46, pu_46, lk_50, pu_50, lk_51, pu_51, lk_52, pu_52, lk_53, pu_53, lk_54, pu_54, lk_55, pu_55, lk_56, pu_56, lk_60, pu_60, lk_61, pu_61, lk_62, pu_62, lk_63, pu_63, lk_64, pu_64, lk_65, pu_65, lk_66, pu_66, pu_n, l3_0, l3_1, l3_2, l3_3, l3_4, l3_5, l3_6, l3_7, dcO_o, key_s, key_i, isDic_d, isF_do, isF_dl, isF_df, lend_do, lend_dl, lend_df, frz_do, frz_df, cap_do, cap_df, noL_do, noL_df, own_d, v_itemUl, v_itemUt, v_inUl, v_inUt, v_notInUl, v_notInUt, v_inUs, v_inUi, v_notInUs, v_notInUi, v_lenUd, v_lenUl, v_lenUt, v_sortedUl, noL_ioo, noL_if, noL_ill, noLN_0, noLN_s, isC_1, isC_int, dcS_o, dcS_l, dcS_f, forL_0, kL_nx, kL_ct, kL_bk, kL_rt, kL_ex, tg_n, tg_t, tg_0, tg_s, wp_0, wp_s, bk_0, bk_s, rd_0, rd_s, sb_a, sb_l, si_a, si_l, hd_0, out_t, out_f, argD, ite_self, List.map_cons, List.map_nil, List.append_nil, List.cons_append, List.nil_append, Bool.and_true, Bool.true_and, Bool.not_true, Bool.not_false, Bool.and_false, Bool.false_and, true_and, and_true, decide_eq_true_eq, Bool.false_eq_true, if_false, if_true, ite_true, ite_false, reduceIte, Bool.not_eq_true', Bool.true_eq_false, eq_self, $xs,*])
/-! the law's own height -/
theorem at_in {α : Type} {f : α → D} (pre : List α) (p : α) (r : List α) {k : Int} (h : k = pre.length) : L2.atI ((pre ++ p :: r).map f) k = some (f p) := by
  subst h
  have hk : pre.length < ((pre ++ p :: r).map f).length := by simp
  rw [at_nat hk]
  simp
theorem lp_lawh {m : Fl} (hm : RO m) {t : Int} {K : ES → Prop} : ∀ (r pre : Sp) (p : Int × Int) (a b : Option D), p.1 ≤ t → AscP (p :: r) → (∀ q ∈ p :: r, Pt q) → (∀ a b p', (pre ++ p :: r).getLast? = some p' → p'.2 = G p r t → K (.nx, [some (spD m (pre ++ p :: r)), some (.int t), a, b])) → (∀ a b, K (.rt (.int (G p r t)), [some (spD m (pre ++ p :: r)), some (.int t), b, a])) →
    has (evForL (tgName 2) bd__law_height_0 ((mins ((pre.length : Int) + 1) r.length).map .int) [some (spD m (pre ++ p :: r)), some (.int t), a, b]) K
  | [], pre, p, a, b, ht, ha, hp, h1, h2 => by
    simp! [mins, List.length_nil, List.range_zero]
    exact h1 a b p (by simp) rfl
  | q :: r, pre, p, a, b, ht, ha, hp, h1, h2 => by
    have hpq : p.1 < q.1 := (List.pairwise_cons.mp ha).1 q List.mem_cons_self
    obtain ⟨p1, p2, p3, p4⟩ := hp p List.mem_cons_self
    obtain ⟨q1, q2, q3, q4⟩ := hp q (by simp)
    have em : mins ((pre.length : Int) + 1) (q :: r).length = ((pre.length : Int) + 1) :: mins ((pre.length : Int) + 1 + 1) r.length := by
      unfold mins
      rw [List.length_cons, List.range_succ_eq_map]
      simp [Function.comp_def, Int.add_assoc, Int.add_comm]
    have a1 : L2.atI ((pre ++ p :: q :: r).map pr) ((pre.length : Int) + 1 - 1) = some (pr p) := at_in pre p (q :: r) (by omega)
    have a2 : L2.atI ((pre ++ p :: q :: r).map pr) ((pre.length : Int) + 1) = some (pr q) := by
      have := at_in (f := pr) (pre ++ [p]) q r (k := (pre.length : Int) + 1) (by simp)
      simpa using this
    rw [em]
    by_cases hq : t < q.1
    · have m1 := mulS (i := q.2 - p.2) (j := t - p.1) ⟨by omega, by omega⟩
      have d1 := v_div (i := (q.2 - p.2) * (t - p.1)) (j := q.1 - p.1) ⟨by omega, by omega⟩
      simp only [pr] at a1 a2
      simp! [List.map_cons, forL_s, bd__law_height_0, a1, a2, pr, ht, hq, decide_true, m1, d1]
      rw [G, if_pos hq] at h2
      exact h2 _ _
    · simp only [pr] at a1 a2
      simp! [List.map_cons, forL_s, bd__law_height_0, a1, a2, pr, ht, hq, decide_true, decide_false]
      have := lp_lawh hm (t := t) (K := K) r (pre ++ [p]) q (some (.int ((pre.length : Int) + 1))) b (by omega) (List.pairwise_cons.mp ha).2 (fun x hx => hp x (List.mem_cons_of_mem _ hx))
      rw [G, if_neg hq] at h1 h2
      simp only [List.append_assoc, List.singleton_append, List.length_append, List.length_cons, List.length_nil, Nat.zero_add, Int.natCast_add, Int.natCast_one] at this
      exact this h1 h2
theorem ok_lawh {m : Fl} (hm : RO m) {ps : Sp} (hp : Pts ps) (t : Int) : F__law_height [spD m ps, .int t] = some (.ok (.int (H ps t)), [none, none]) := by
  cases ps with
  | nil => exact absurd rfl hp.ne
  | cons p r =>
    have hpt := hp.pt
    have hasc := hp.asc
    have hle := hp.le
    have a0 : L2.atI ((p :: r).map pr) 0 = some (pr p) := at_in [] p r rfl
    unfold F__law_height
    refine fn_go rfl ?_
    show Go ev__law_height [some (spD m (p :: r)), some (.int t), none, none] _
    simp only [pr] at a0
    by_cases ht : t ≤ p.1
    · simp! [ev__law_height, a0, pr, ht, decide_true]
      have : H (p :: r) t = p.2 := by
        rw [H]
        by_cases h1 : t < p.1
        · rw [if_pos h1]
        · rw [if_neg h1]
          cases r with
          | nil => rfl
          | cons q r =>
            have hpq : p.1 < q.1 := (List.pairwise_cons.mp hasc).1 q List.mem_cons_self
            have : t - p.1 = 0 := by omega
            rw [G, if_pos (by omega), btw, this, Int.mul_zero, Int.zero_ediv, Int.add_zero]
      rw [this]
      first | rfl | exact ⟨rfl, rfl⟩
    · have er := rng2_i 1 ((p :: r).map pr).length ⟨by decide, by decide, by omega, by rw [List.length_map]; omega⟩
      have el : (((p :: r).map pr).length - 1 : Int).toNat = r.length := by simp
      rw [el] at er
      simp! [ev__law_height, a0, pr, ht, decide_false]
      simp only [List.map_cons, pr] at er
      simp! [er]
      refine lp_lawh hm r [] p _ _ (by omega) hasc hpt (fun a b p' hl e => ?_) (fun a b => ?_)
      · have eH : H (p :: r) t = p'.2 := by rw [H, if_neg (by omega), e]
        have al : L2.atI ((p :: r).map pr) (-1) = some (pr p') := by
          obtain ⟨pre, e2⟩ : ∃ pre, p :: r = pre ++ [p'] := by
            have := List.getLast?_eq_some_iff.mp hl
            exact this
          rw [e2, List.map_append, List.map_cons, List.map_nil, at_last]
        simp only [List.map_cons, pr] at al
        simp! [List.nil_append, pr, al]
        rw [eH]
        first | rfl | exact ⟨rfl, rfl⟩
      · have eH : H (p :: r) t = G p r t := by rw [H, if_neg (by omega)]
        simp! [List.nil_append]
        rw [eH]
        first | rfl | exact ⟨rfl, rfl⟩
/-! between two points the heights rise, or fall -/
theorem btw_up {p q : Int × Int} (hpq : p.1 < q.1) (h : p.2 ≤ q.2) {x y : Int} (hxy : x ≤ y) : btw p q x ≤ btw p q y := by
  unfold btw
  have := Int.ediv_le_ediv (c := q.1 - p.1) (by omega) (Int.mul_le_mul_of_nonneg_left (a := x - p.1) (b := y - p.1) (c := q.2 - p.2) (by omega) (by omega))
  omega
theorem btw_down {p q : Int × Int} (hpq : p.1 < q.1) (h : q.2 ≤ p.2) {x y : Int} (hxy : x ≤ y) : btw p q y ≤ btw p q x := by
  unfold btw
  have := Int.ediv_le_ediv (c := q.1 - p.1) (by omega) (Int.mul_le_mul_of_nonpos_left (b := y - p.1) (c := x - p.1) (a := q.2 - p.2) (by omega) (by omega))
  omega
def Mono (h : Int → Int) (f l : Int) : Prop := (∀ x y, f ≤ x → x ≤ y → y ≤ l → h x ≤ h y) ∨ (∀ x y, f ≤ x → x ≤ y → y ≤ l → h y ≤ h x)
theorem G_mono {f l : Int} (hfl : f ≤ l) : ∀ (xs : Sp) (p : Int × Int), p.1 ≤ f → (∀ q ∈ xs, ¬ (f < q.1 ∧ q.1 ≤ l)) → Mono (G p xs) f l
  | [], p, hp, hn => .inl fun x y _ _ _ => Int.le_refl _
  | q :: r, p, hp, hn => by
    by_cases hq : l < q.1
    · have e : ∀ x, x ≤ l → G p (q :: r) x = btw p q x := fun x hx => by rw [G, if_pos (by omega)]
      rcases Int.le_total p.2 q.2 with h | h
      · refine .inl fun x y h1 h2 h3 => ?_
        rw [e x (by omega), e y h3]
        exact btw_up (by omega) h h2
      · refine .inr fun x y h1 h2 h3 => ?_
        rw [e x (by omega), e y h3]
        exact btw_down (by omega) h h2
    · have hqf : q.1 ≤ f := by
        have := hn q List.mem_cons_self
        omega
      have e : ∀ x, f ≤ x → G p (q :: r) x = G q r x := fun x hx => by rw [G, if_neg (by omega)]
      have ih := G_mono hfl r q hqf fun s hs => hn s (List.mem_cons_of_mem _ hs)
      rcases ih with h | h
      · refine .inl fun x y h1 h2 h3 => ?_
        rw [e x h1, e y (by omega)]
        exact h x y h1 h2 h3
      · refine .inr fun x y h1 h2 h3 => ?_
        rw [e x h1, e y (by omega)]
        exact h x y h1 h2 h3
theorem H_mono {f l : Int} (hfl : f ≤ l) (ps : Sp) (hn : ∀ q ∈ ps, ¬ (f < q.1 ∧ q.1 ≤ l)) : Mono (H ps) f l := by
  cases ps with
  | nil => exact .inl fun x y _ _ _ => Int.le_refl _
  | cons p r =>
    by_cases hl : l < p.1
    · have e : ∀ x, x ≤ l → H (p :: r) x = p.2 := fun x hx => by rw [H, if_pos (by omega)]
      refine .inl fun x y h1 h2 h3 => ?_
      rw [e x (by omega), e y h3]
      exact Int.le_refl _
    · have hpf : p.1 ≤ f := by
        have := hn p List.mem_cons_self
        omega
      have e : ∀ x, f ≤ x → H (p :: r) x = G p r x := fun x hx => by rw [H, if_neg (by omega)]
      rcases G_mono hfl r p hpf fun s hs => hn s (List.mem_cons_of_mem _ hs) with h | h
      · refine .inl fun x y h1 h2 h3 => ?_
        rw [e x h1, e y (by omega)]
        exact h x y h1 h2 h3
      · refine .inr fun x y h1 h2 h3 => ?_
        rw [e x h1, e y (by omega)]
        exact h x y h1 h2 h3
end K13
namespace K13
open PySem PD
local macro_rules | `(tactic| simp! [$xs,*]) => `(tactic| simp only [e_cst, e_nil, e_yes, e_var, e_fv, e_mv, e_cons, e_dfr, e_op, e_tup, e_lst, e_tr, e_notT, e_andT, e_orT, e_andV, e_orV, e_notV, e_opq, e_if, e_call, e_callM, e_chain, e_src, e_rng, e_lc, g_nx, g_retN, g_brk, g_cnt, g_seq, g_drop, g_ret, g_asg, g_if, g_for, g_app, g_set, kk_ok, kS_ok, kQ_nx, kQ_rt, kQ_bk, kQ_ct, kk_ex, kS_ex, kQ_ex, g_raise, e_isi, g_asgT, e_grd, g_try, g_tryAs, g_appT, e_chainN, lkQ_1, lkQ_2, noX_rt, noX_nx, noX_bk, noX_ct, hdQ_0, hdQ_s, tryQ_ex, tryQ_rt, tryQ_nx, tryQ_bk, tryQ_ct, tasQ_ex, tasQ_rt, tasQ_nx, tasQ_bk, tasQ_ct, e_attr, g_setF, g_appF, e_meth, e_methM, e_make, g_asgL, mkQ_ok, mkQ_ex, e_dnew, g_dput, g_dputF, g_ddelF, g_ddel, g_dpopS, e_keys, e_isC, has_some, sl_0, sl_s, st_0, st_s, v_add, v_sub, v_neg, v_lt, v_le, v_gt, v_ge, v_eqi, v_nei, v_is, v_isNot, v_len, v_lenT, v_abs, v_int, v_intB, v_item, v_itemT, v_list, v_max, v_min, v_repr, blD_bl, truD_bl, truD_lst, isF_int, isF_bl, isF_non, isF_tup, isF_str, isF_lf, isF_lk, isF_lo, isF_ll, at_0, at_1, at_2, at_3, at_4, at_5, ix_0, ix_1, ix_2, cap_i, cap_t, noL_i, noL_n, noL_b, noL_t, ck_0, ck_s, lk_0, lk_1, lk_2, lk_3, lk_4, ln_0, ln_1, ln_2, ln_3, ln_4, own_o, own_l, own_f, its_o, its_l, its_f, lend_o, lend_i, lend_b, lend_n, lend_s, lend_t, cap_k, cap_f, lend_l, lend_f, sh_o, sh_l, sh_f, sh_k, Bool.or_true, Bool.true_or, Bool.or_false, Bool.false_or, intD, isLst, lstO, List.set_cons_zero, List.set_cons_succ, bind_S, ty_i, ty_b, ty_s, ty_t, ty_l, ty_n, is_ii, is_ib, is_is, is_it, is_il, is_bi, is_bb, is_bs, is_bt, is_bl, is_si, is_sb, is_ss, is_st, is_sl, is_ti, is_tb, is_ts, is_tt, is_tl, is_li, is_lb, is_ls, is_lt, is_ll, is_ni, is_nb, is_ns, is_nt, is_nl, v_eqS, v_neS, v_inS, v_notInS, truD_n, truD_t, cap_o, cap_s, cap_n, cap_b, noL_s, its_t, own_t, own_s, its_s, sv_n, sv_i, sv_s, sv_b, isStr_s, isNon_n, isNon_i, isNon_s, isNon_t, isNon_l, v_tup, noL_lo, noL_lf, frz_lo, frz_lf, insOf_s, insO_s, isIns_s, lstS_o, lstS_l, lstS_f, v_rev, lend_ioo, lend_ill, lend_if, lendN_0, lendN_s, frzN_0, frzN_s, cap_ioo, cap_if, frz_ioo, isF_ioo, isF_ill, isF_if, lstO_o, lk_00, pu_00, lk_01, pu_01, lk_02, pu_02, lk_03, pu_03, lk_04, pu_04, lk_05, pu_05, lk_06, pu_06, lk_10, pu_10, lk_11, pu_11, lk_12, pu_12, lk_13, pu_13, lk_14, pu_14, lk_15, pu_15, lk_16, pu_16, lk_20, pu_20, lk_21, pu_21, lk_22, pu_22, lk_23, pu_23, lk_24, pu_24, lk_25, pu_25, lk_26, pu_26, lk_30, pu_30, lk_31, pu_31, lk_32, pu_32, lk_33, pu_33, lk_34, pu_34, lk_35, pu_35, lk_36, pu_36, lk_40, pu_40, lk_41, pu_41, lk_42, pu_42, lk_43, pu_43, lk_44, pu_44, lk_45, pu_45, lk_46, pu_46, lk_50, pu_50, lk_51, pu_51, lk_52, pu_52, lk_53, pu_53, lk_54, pu_54, lk_55, pu_55, lk_56, pu_56, lk_60, pu_60, lk_61, pu_61, lk_62, pu_62, lk_63, pu_63, lk_64, pu_64, lk_65, pu_65, lk_66, pu_66, pu_n, l3_0, l3_1, l3_2, l3_3, l3_4, l3_5, l3_6, l3_7, dcO_o, key_s, key_i, isDic_d, isF_do, isF_dl, isF_df, lend_do, lend_dl, lend_df, frz_do, frz_df, cap_do, cap_df, noL_do, noL_df, own_d, v_itemUl, v_itemUt, v_inUl, v_inUt, v_notInUl, v_notInUt, v_inUs, v_inUi, v_notInUs, v_notInUi, v_lenUd, v_lenUl, v_lenUt, v_sortedUl, noL_ioo, noL_if, noL_ill, noLN_0, noLN_s, isC_1, isC_int, dcS_o, dcS_l, dcS_f, forL_0, kL_nx, kL_ct, kL_bk, kL_rt, kL_ex, tg_n, tg_t, tg_0, tg_s, wp_0, wp_s, bk_0, bk_s, rd_0, rd_s, sb_a, sb_l, si_a, si_l, hd_0, out_t, out_f, argD, ite_self, List.map_cons, List.map_nil, List.append_nil, List.cons_append, List.nil_append, Bool.and_true, Bool.true_and, Bool.not_true, Bool.not_false, Bool.and_false, Bool.false_and, true_and, and_true, decide_eq_true_eq, Bool.false_eq_true, if_false, if_true, ite_true, ite_false, reduceIte, Bool.not_eq_true', Bool.true_eq_false, eq_self, $xs,*])
theorem eq_bb (a b : Bool) : gEq [.bl a, .bl b] = some (.bl (a == b)) := by
  cases a <;> cases b <;> rfl
theorem lp_turn {d : D} {l : Fl} {ps : Sp} (h : Ti d l ps) (hp : Pts ps) {lv : Int} {b : Bool} {QS : Out → DS → Prop} : ∀ (k : Nat) (lo hi : Int) (md : Option D), lo < hi → hi - lo ≤ k → -1000000000 ≤ lo → hi ≤ 1000000000 → decide (lv ≤ H ps hi) = b → decide (lv ≤ H ps lo) = !b →
    (∀ v md, lo ≤ v → v < hi → decide (lv ≤ H ps (v + 1)) = b → decide (lv ≤ H ps v) = !b → QS .nx [some d, some (.int lv), some (.int v), some (.int (v + 1)), some (.bl b), md]) →
    Go (evWhl wt_Tide___turn_0 bd_Tide___turn_1 k) [some d, some (.int lv), some (.int lo), some (.int hi), some (.bl b), md] QS
  | 0, lo, hi, md, h1, h2, _, _, _, _, _ => by exfalso; omega
  | k + 1, lo, hi, md, h1, h2, h3, h4, h5, h6, hQ => by
    rw [whl_s]
    obtain ⟨⟨m, rfl⟩, hs, hl⟩ := id h
    simp! [wt_Tide___turn_0]
    by_cases hd : 1 < hi - lo
    · have eh := ok_height h hp ((lo + hi) / 2)
      have m1 : lo < (lo + hi) / 2 := by omega
      have m2 : (lo + hi) / 2 < hi := by omega
      simp! [hd, bd_Tide___turn_1, v_div (i := lo + hi) (j := 2) (by decide), hl, eh, eq_bb]
      by_cases he : decide (lv ≤ H ps ((lo + hi) / 2)) = b
      · have he2 : (decide (lv ≤ H ps ((lo + hi) / 2)) == b) = true := by rw [he]; cases b <;> rfl
        simp! [he2]
        refine lp_turn h hp k lo _ _ m1 (by omega) h3 (by omega) he h6 fun v md q1 q2 q3 q4 => hQ v md q1 (by omega) q3 q4
      · have he2 : (decide (lv ≤ H ps ((lo + hi) / 2)) == b) = false := by
          cases hx : decide (lv ≤ H ps ((lo + hi) / 2)) <;> cases b <;> simp_all
        have he3 : decide (lv ≤ H ps ((lo + hi) / 2)) = !b := by
          cases hx : decide (lv ≤ H ps ((lo + hi) / 2)) <;> cases b <;> simp_all
        simp! [he2]
        refine lp_turn h hp k _ hi _ m2 (by omega) (by omega) h4 h5 he3 fun v md q1 q2 q3 q4 => hQ v md (by omega) q2 q3 q4
    · have e : hi = lo + 1 := by omega
      subst e
      simp! [hd]
      exact hQ lo md (by omega) (by omega) h5 h6
theorem ok_turn {d : D} {l : Fl} {ps : Sp} (h : Ti d l ps) (hp : Pts ps) {lv lo hi : Int} {b : Bool} (h1 : lo < hi) (h2 : hi - lo ≤ 1000000) (h3 : -1000000000 ≤ lo) (h4 : hi ≤ 1000000000) (h5 : decide (lv ≤ H ps hi) = b) (h6 : decide (lv ≤ H ps lo) = !b) :
    ∃ v, lo ≤ v ∧ v < hi ∧ decide (lv ≤ H ps (v + 1)) = b ∧ decide (lv ≤ H ps v) = (!b) ∧ F_Tide___turn [d, .int lv, .int lo, .int hi, .bl b] = some (.ok (.int (if b then v + 1 else v)), [none, none, none, none, none]) := by
  have key : Go ev_Tide___turn [some d, some (.int lv), some (.int lo), some (.int hi), some (.bl b), none] fun o δ => ∃ v, lo ≤ v ∧ v < hi ∧ decide (lv ≤ H ps (v + 1)) = b ∧ decide (lv ≤ H ps v) = (!b) ∧ o = .rt (.int (if b then v + 1 else v)) := by
    unfold ev_Tide___turn
    rw [g_seq]
    refine lp_turn h hp 1000000 lo hi none h1 (by omega) h3 h4 h5 h6 fun v md q1 q2 q3 q4 => ?_
    cases b
    · simp! []
      exact ⟨v, q1, q2, by simpa using q3, by simpa using q4, by first | rfl | simp⟩
    · simp! []
      exact ⟨v, q1, q2, by simpa using q3, by simpa using q4, by first | rfl | simp⟩
  obtain ⟨o, δ, e1, v, q1, q2, q3, q4, rfl⟩ := key
  refine ⟨v, q1, q2, q3, q4, ?_⟩
  unfold F_Tide___turn
  exact fn_go rfl ⟨_, _, e1, rfl⟩
def oq : Option (Int × Int) → D
  | none => .non
  | some q => pr q
/-- what a straight piece gives -/
structure Piece (ps : Sp) (lv f l : Int) (o : Option (Int × Int)) : Prop where
  inn : ∀ t, f ≤ t → t ≤ l → (lv ≤ H ps t ↔ ∃ q, o = some q ∧ q.1 ≤ t ∧ t ≤ q.2)
  rng : ∀ q, o = some q → f ≤ q.1 ∧ q.1 ≤ q.2 ∧ q.2 ≤ l
theorem ok_piece {d : D} {l : Fl} {ps : Sp} (h : Ti d l ps) (hp : Pts ps) {lv f e : Int} (h1 : f ≤ e) (h2 : e - f ≤ 1000000) (h3 : -1000000000 ≤ f) (h4 : e ≤ 1000000000) (hm : Mono (H ps) f e) :
    ∃ o, Piece ps lv f e o ∧ F_Tide___piece [d, .int lv, .int f, .int e] = some (.ok (oq o), [none, none, none, none]) := by
  have key : Go ev_Tide___piece [some d, some (.int lv), some (.int f), some (.int e), none, none] fun o δ => ∃ q, Piece ps lv f e q ∧ o = .rt (oq q) := by
    obtain ⟨⟨m, rfl⟩, hs, hl⟩ := id h
    have ef := ok_height h hp f
    have ee := ok_height h hp e
    unfold ev_Tide___piece
    by_cases hf : lv ≤ H ps f <;> by_cases he : lv ≤ H ps e
    · simp! [hl, ef, ee, hf, he, decide_true, decide_false]
      refine ⟨some (f, e), ⟨fun t q1 q2 => ⟨fun _ => ⟨_, rfl, q1, q2⟩, fun _ => ?_⟩, fun q eq => ?_⟩, rfl⟩
      · rcases hm with hm | hm
        · have := hm f t (by omega) q1 q2; omega
        · have := hm t e q1 q2 (by omega); omega
      · cases eq; exact ⟨Int.le_refl _, h1, Int.le_refl _⟩
    · have hlt : f < e := by
        rcases Int.lt_or_eq_of_le h1 with z | z
        · exact z
        · rw [z] at hf; exact absurd hf he
      obtain ⟨v, v1, v2, v3, v4, v5⟩ := ok_turn h hp (lv := lv) (b := false) hlt h2 h3 h4 (by simpa using he) (by simpa using hf)
      simp! [hl, ef, ee, hf, he, decide_true, decide_false, v5]
      have v3' : ¬ lv ≤ H ps (v + 1) := by simpa using v3
      have v4' : lv ≤ H ps v := by simpa using v4
      have hd : ∀ x y, f ≤ x → x ≤ y → y ≤ e → H ps y ≤ H ps x := by
        rcases hm with hm | hm
        · have := hm f e (Int.le_refl _) h1 (Int.le_refl _); omega
        · exact hm
      refine ⟨some (f, v), ⟨fun t q1 q2 => ⟨fun z => ⟨_, rfl, q1, ?_⟩, fun ⟨q, eq, z1, z2⟩ => ?_⟩, fun q eq => ?_⟩, rfl⟩
      · by_cases hv : t ≤ v
        · exact hv
        · have := hd (v + 1) t (by omega) (by omega) q2; omega
      · cases eq
        have := hd t v q1 z2 (by omega); omega
      · cases eq; exact ⟨Int.le_refl _, v1, by simp only; omega⟩
    · have hlt : f < e := by
        rcases Int.lt_or_eq_of_le h1 with z | z
        · exact z
        · rw [z] at hf; exact absurd he hf
      obtain ⟨v, v1, v2, v3, v4, v5⟩ := ok_turn h hp (lv := lv) (b := true) hlt h2 h3 h4 (by simpa using he) (by simpa using hf)
      simp! [hl, ef, ee, hf, he, decide_true, decide_false, v5]
      have v3' : lv ≤ H ps (v + 1) := by simpa using v3
      have v4' : ¬ lv ≤ H ps v := by simpa using v4
      have hd : ∀ x y, f ≤ x → x ≤ y → y ≤ e → H ps x ≤ H ps y := by
        rcases hm with hm | hm
        · exact hm
        · have := hm f e (Int.le_refl _) h1 (Int.le_refl _); omega
      refine ⟨some (v + 1, e), ⟨fun t q1 q2 => ⟨fun z => ⟨_, rfl, ?_, q2⟩, fun ⟨q, eq, z1, z2⟩ => ?_⟩, fun q eq => ?_⟩, rfl⟩
      · by_cases hv : v + 1 ≤ t
        · exact hv
        · have := hd t v q1 (by omega) (by omega); omega
      · cases eq
        have := hd (v + 1) t (by omega) z1 q2; omega
      · cases eq; exact ⟨by simp only; omega, by simp only; omega, Int.le_refl _⟩
    · simp! [hl, ef, ee, hf, he, decide_true, decide_false]
      refine ⟨none, ⟨fun t q1 q2 => ⟨fun z => ?_, fun ⟨q, eq, _⟩ => by cases eq⟩, fun q eq => by cases eq⟩, rfl⟩
      rcases hm with hm | hm
      · have := hm t e q1 q2 (by omega); omega
      · have := hm f t (by omega) q1 q2; omega
  obtain ⟨o, δ, e1, q, hq, rfl⟩ := key
  refine ⟨q, hq, ?_⟩
  unfold F_Tide___piece
  exact fn_go rfl ⟨_, _, e1, rfl⟩
end K13
namespace K13
open PySem PD
local macro_rules | `(tactic| simp! [$xs,*]) => `(tactic| simp only [e_cst, e_nil, e_yes, e_var, e_fv, e_mv, e_cons, e_dfr, e_op, e_tup, e_lst, e_tr, e_notT, e_andT, e_orT, e_andV, e_orV, e_notV, e_opq, e_if, e_call, e_callM, e_chain, e_src, e_rng, e_lc, g_nx, g_retN, g_brk, g_cnt, g_seq, g_drop, g_ret, g_asg, g_if, g_for, g_app, g_set, kk_ok, kS_ok, kQ_nx, kQ_rt, kQ_bk, kQ_ct, kk_ex, kS_ex, kQ_ex, g_raise, e_isi, g_asgT, e_grd, g_try, g_tryAs, g_appT, e_chainN, lkQ_1, lkQ_2, noX_rt, noX_nx, noX_bk, noX_ct, hdQ_0, hdQ_s, tryQ_ex, tryQ_rt, tryQ_nx, tryQ_bk, tryQ_ct, tasQ_ex, tasQ_rt, tasQ_nx, tasQ_bk, tasQ_ct, e_attr, g_setF, g_appF, e_meth, e_methM, e_make, g_asgL, mkQ_ok, mkQ_ex, e_dnew, g_dput, g_dputF, g_ddelF, g_ddel, g_dpopS, e_keys, e_isC, has_some, sl_0, sl_s, st_0, st_s, v_add, v_sub, v_neg, v_lt, v_le, v_gt, v_ge, v_eqi, v_nei, v_is, v_isNot, v_len, v_lenT, v_abs, v_int, v_intB, v_item, v_itemT, v_list, v_max, v_min, v_repr, blD_bl, truD_bl, truD_lst, isF_int, isF_bl, isF_non, isF_tup, isF_str, isF_lf, isF_lk, isF_lo, isF_ll, at_0, at_1, at_2, at_3, at_4, at_5, ix_0, ix_1, ix_2, cap_i, cap_t, noL_i, noL_n, noL_b, noL_t, ck_0, ck_s, lk_0, lk_1, lk_2, lk_3, lk_4, ln_0, ln_1, ln_2, ln_3, ln_4, own_o, own_l, own_f, its_o, its_l, its_f, lend_o, lend_i, lend_b, lend_n, lend_s, lend_t, cap_k, cap_f, lend_l, lend_f, sh_o, sh_l, sh_f, sh_k, Bool.or_true, Bool.true_or, Bool.or_false, Bool.false_or, intD, isLst, lstO, List.set_cons_zero, List.set_cons_succ, bind_S, ty_i, ty_b, ty_s, ty_t, ty_l, ty_n, is_ii, is_ib, is_is, is_it, is_il, is_bi, is_bb, is_bs, is_bt, is_bl, is_si, is_sb, is_ss, is_st, is_sl, is_ti, is_tb, is_ts, is_tt, is_tl, is_li, is_lb, is_ls, is_lt, is_ll, is_ni, is_nb, is_ns, is_nt, is_nl, v_eqS, v_neS, v_inS, v_notInS, truD_n, truD_t, cap_o, cap_s, cap_n, cap_b, noL_s, its_t, own_t, own_s, its_s, sv_n, sv_i, sv_s, sv_b, isStr_s, isNon_n, isNon_i, isNon_s, isNon_t, isNon_l, v_tup, noL_lo, noL_lf, frz_lo, frz_lf, insOf_s, insO_s, isIns_s, lstS_o, lstS_l, lstS_f, v_rev, lend_ioo, lend_ill, lend_if, lendN_0, lendN_s, frzN_0, frzN_s, cap_ioo, cap_if, frz_ioo, isF_ioo, isF_ill, isF_if, lstO_o, lk_00, pu_00, lk_01, pu_01, lk_02, pu_02, lk_03, pu_03, lk_04, pu_04, lk_05, pu_05, lk_06, pu_06, lk_10, pu_10, lk_11, pu_11, lk_12, pu_12, lk_13, pu_13, lk_14, pu_14, lk_15, pu_15, lk_16, pu_16, lk_20, pu_20, lk_21, pu_21, lk_22, pu_22, lk_23, pu_23, lk_24, pu_24, lk_25, pu_25, lk_26, pu_26, lk_30, pu_30, lk_31, pu_31, lk_32, pu_32, lk_33, pu_33, lk_34, pu_34, lk_35, pu_35, lk_36, pu_36, lk_40, pu_40, lk_41, pu_41, lk_42, pu_42, lk_43, pu_43, lk_44, pu_44, lk_45, pu_45, lk_46, pu_46, lk_50, pu_50, lk_51, pu_51, lk_52, pu_52, lk_53, pu_53, lk_54, pu_54, lk_55, pu_55, lk_56, pu_56, lk_60, pu_60, lk_61, pu_61, lk_62, pu_62, lk_63, pu_63, lk_64, pu_64, lk_65, pu_65, lk_66, pu_66, pu_n, l3_0, l3_1, l3_2, l3_3, l3_4, l3_5, l3_6, l3_7, dcO_o, key_s, key_i, isDic_d, isF_do, isF_dl, isF_df, lend_do, lend_dl, lend_df, frz_do, frz_df, cap_do, cap_df, noL_do, noL_df, own_d, v_itemUl, v_itemUt, v_inUl, v_inUt, v_notInUl, v_notInUt, v_inUs, v_inUi, v_notInUs, v_notInUi, v_lenUd, v_lenUl, v_lenUt, v_sortedUl, noL_ioo, noL_if, noL_ill, noLN_0, noLN_s, isC_1, isC_int, dcS_o, dcS_l, dcS_f, forL_0, kL_nx, kL_ct, kL_bk, kL_rt, kL_ex, tg_n, tg_t, tg_0, tg_s, wp_0, wp_s, bk_0, bk_s, rd_0, rd_s, sb_a, sb_l, si_a, si_l, hd_0, out_t, out_f, argD, ite_self, List.map_cons, List.map_nil, List.append_nil, List.cons_append, List.nil_append, Bool.and_true, Bool.true_and, Bool.not_true, Bool.not_false, Bool.and_false, Bool.false_and, true_and, and_true, decide_eq_true_eq, Bool.false_eq_true, if_false, if_true, ite_true, ite_false, reduceIte, Bool.not_eq_true', Bool.true_eq_false, eq_self, $xs,*])
theorem add_i (xs ys : List Int) (h : xs.length + ys.length ≤ 1000) : gAdd [miD .o xs, miD .o ys] = some (miD .o (xs ++ ys)) := by
  show (if (shal .o && shal .o && Fl.o != .k && Fl.o != .k && decide ((xs.map D.int).length + (ys.map D.int).length ≤ sizeLine)) = true then some (D.lst .o (xs.map D.int ++ ys.map D.int)) else none) = _
  rw [if_pos, show miD .o (xs ++ ys) = D.lst .o (xs.map .int ++ ys.map .int) from by simp [miD]]
  have : decide ((xs.map D.int).length + (ys.map D.int).length ≤ sizeLine) = true := by
    rw [decide_eq_true_eq, List.length_map, List.length_map, sizeLine_eq]; omega
  rw [this]; rfl
theorem mins_s (lo : Int) (n : Nat) : mins lo (n + 1) = lo :: mins (lo + 1) n := by
  unfold mins
  rw [List.range_succ_eq_map, List.map_cons, List.map_map]
  congr 1
  · simp
  · refine List.map_congr_left fun a _ => ?_
    simp only [Function.comp, Nat.succ_eq_add_one, Int.natCast_add, Int.natCast_one]
    omega
/-- the minutes from b to e at which it is high enough -/
def highM (ps : Sp) (lv b e : Int) : List Int := (mins b (e + 1 - b).toNat).filter fun t => decide (lv ≤ H ps t)
theorem mem_high {ps : Sp} {lv b e t : Int} : t ∈ highM ps lv b e ↔ (b ≤ t ∧ t ≤ e) ∧ lv ≤ H ps t := by
  unfold highM
  rw [List.mem_filter, mem_mins, decide_eq_true_eq]
  constructor
  · rintro ⟨h1, h2⟩; exact ⟨by omega, h2⟩
  · rintro ⟨h1, h2⟩; exact ⟨by omega, h2⟩
theorem cap_oq (o : Option (Int × Int)) : isF (oq o) = true := by cases o <;> rfl
structure Acc (ps : Sp) (lv b c : Int) (acc : Sp) : Prop where
  ok : ∀ q ∈ acc, q.1 ≤ q.2
  inn : ∀ t, In acc t ↔ (b ≤ t ∧ t < c) ∧ lv ≤ H ps t
theorem lp_cuts {d : D} {l : Fl} {ps : Sp} (h : Ti d l ps) (hp : Pts ps) {lv b e : Int} (hb : -1000000 ≤ b) (he : e ≤ 1000000) (hbe : e - b ≤ 1000000) {K : ES → Prop} : ∀ (r pre : List Int) (c : Int) (acc : Sp) (a6 a7 a8 : Option D), Asc (pre ++ c :: r) → (∀ q ∈ ps, b < q.1 → q.1 ≤ e → q.1 ∈ pre ++ c :: r) → (∀ x ∈ c :: r, b ≤ x ∧ x ≤ e + 1) → (pre ++ c :: r).getLast? = some (e + 1) → acc.length + r.length ≤ 1000 → Acc ps lv b c acc →
    (∀ acc a6 a7 a8, acc.length ≤ 1000 → Acc ps lv b (e + 1) acc → K (.nx, [some d, some (.int lv), some (.int b), some (.int e), some (miD .o (pre ++ c :: r)), some (spD .o acc), a6, a7, a8])) →
    has (evForL (tgName 6) bd_Tide__spans_above_2 ((mins (pre.length : Int) r.length).map .int) [some d, some (.int lv), some (.int b), some (.int e), some (miD .o (pre ++ c :: r)), some (spD .o acc), a6, a7, a8]) K
  | [], pre, c, acc, a6, a7, a8, h1, h2, h3, h4, h5, h6, h7 => by
    simp! [mins, List.length_nil, List.range_zero]
    have ec : c = e + 1 := by simpa using h4
    subst ec
    exact h7 acc a6 a7 a8 (by simpa using h5) h6
  | x :: r, pre, c, acc, a6, a7, a8, h1, h2, h3, h4, h5, h6, h7 => by
    simp only [List.length_cons] at h5
    have hA := List.pairwise_append.mp h1
    have hA2 := List.pairwise_cons.mp hA.2.1
    have hA3 := List.pairwise_cons.mp hA2.2
    have hcx : c < x := hA2.1 x List.mem_cons_self
    have hc := h3 c List.mem_cons_self
    have hx := h3 x (by simp)
    have hm : Mono (H ps) c (x - 1) := by
      refine H_mono (by omega) ps fun q hq ⟨z1, z2⟩ => ?_
      have := h2 q hq (by omega) (by omega)
      rcases List.mem_append.mp this with y | y
      · have := hA.2.2 q.1 y c List.mem_cons_self; omega
      · rcases List.mem_cons.mp y with y | y
        · omega
        · rcases List.mem_cons.mp y with y | y
          · omega
          · have := hA3.1 q.1 y; omega
    obtain ⟨o, po, eo⟩ := ok_piece h hp (lv := lv) (f := c) (e := x - 1) (by omega) (by omega) (by omega) (by omega) hm
    have em : mins (pre.length : Int) (x :: r).length = (pre.length : Int) :: mins ((pre.length : Int) + 1) r.length := by
      exact mins_s _ _
    have a1 : L2.atI ((pre ++ c :: x :: r).map D.int) (pre.length : Int) = some (.int c) := at_in pre c (x :: r) rfl
    have a2 : L2.atI ((pre ++ c :: x :: r).map D.int) ((pre.length : Int) + 1) = some (.int x) := by
      have := at_in (f := D.int) (pre ++ [c]) x r (k := (pre.length : Int) + 1) (by simp)
      simpa using this
    rw [em]
    have hl2 : (acc.map pr).length < 1000000 := by rw [List.length_map]; omega
    have hld := h.ld
    have key : ∀ acc' a7, acc'.length + r.length ≤ 1000 → Acc ps lv b x acc' → has (evForL (tgName 6) bd_Tide__spans_above_2 ((mins ((pre.length : Int) + 1) r.length).map .int) [some d, some (.int lv), some (.int b), some (.int e), some (miD .o (pre ++ c :: x :: r)), some (spD .o acc'), some (.int (pre.length : Int)), a7, a8]) K := by
      intro acc' a7 g1 g2
      have := lp_cuts h hp (lv := lv) hb he hbe (K := K) r (pre ++ [c]) x acc' (some (.int (pre.length : Int))) a7 a8
      simp only [List.append_assoc, List.singleton_append, List.length_append, List.length_cons, List.length_nil, Nat.zero_add, Int.natCast_add, Int.natCast_one] at this
      exact this h1 h2 (fun y hy => h3 y (List.mem_cons_of_mem _ hy)) h4 g1 g2 h7
    obtain ⟨⟨m, rfl⟩, hs, hl⟩ := id h
    cases o with
    | none =>
      simp only [oq] at eo
      simp! [List.map_cons, forL_s, bd_Tide__spans_above_2, a1, a2, hld, eo]
      refine key acc _ (by omega) ⟨h6.ok, fun t => ?_⟩
      rw [h6.inn]
      constructor
      · rintro ⟨z1, z2⟩; exact ⟨by omega, z2⟩
      · rintro ⟨z1, z2⟩
        refine ⟨⟨z1.1, ?_⟩, z2⟩
        by_cases y : t < c
        · exact y
        · obtain ⟨q, eq, _⟩ := (po.inn t (by omega) (by omega)).mp z2
          cases eq
    | some q =>
      obtain ⟨r1, r2, r3⟩ := po.rng q rfl
      simp only [oq, pr] at eo
      simp! [List.map_cons, forL_s, bd_Tide__spans_above_2, a1, a2, hld, eo]
      refine ⟨hl2, ?_⟩
      rw [snoc]
      refine key (acc ++ [q]) _ (by simp; omega) ⟨fun s hs => ?_, fun t => ?_⟩
      · rcases List.mem_append.mp hs with z | z
        · exact h6.ok s z
        · rw [List.mem_singleton.mp z]; exact r2
      · rw [In_app, h6.inn, In_cons]
        constructor
        · rintro (⟨z1, z2⟩ | z | z)
          · exact ⟨by omega, z2⟩
          · have z1 := z.1; have z2 := z.2
            exact ⟨by omega, (po.inn t (by omega) (by omega)).mpr ⟨q, rfl, z⟩⟩
          · exact (In_nil z).elim
        · rintro ⟨z1, z2⟩
          by_cases y : t < c
          · exact .inl ⟨by omega, z2⟩
          · obtain ⟨q', eq, z⟩ := (po.inn t (by omega) (by omega)).mp z2
            cases eq
            exact .inr (.inl z)
def innerM (ps : Sp) (b e : Int) : List Int := (ps.filter fun q => decide (b < q.1) && decide (q.1 ≤ e)).map (·.1)
theorem cuts_eq {ps : Sp} (ha : AscP ps) {b e : Int} (hbe : b ≤ e) : sortI ([b, e + 1] ++ innerM ps b e) = b :: (innerM ps b e ++ [e + 1]) := by
  have hin : ∀ x ∈ innerM ps b e, b < x ∧ x ≤ e := by
    intro x hx
    obtain ⟨q, hq, rfl⟩ := List.mem_map.mp hx
    have := (List.mem_filter.mp hq).2
    simpa using this
  have hasc : Asc (b :: (innerM ps b e ++ [e + 1])) := by
    refine List.pairwise_cons.mpr ⟨fun x hx => ?_, List.pairwise_append.mpr ⟨?_, List.pairwise_singleton _ _, fun x hx y hy => ?_⟩⟩
    · rcases List.mem_append.mp hx with z | z
      · exact (hin x z).1
      · rw [List.mem_singleton.mp z]; omega
    · unfold innerM
      rw [List.pairwise_map]
      exact ha.filter _
    · rw [List.mem_singleton.mp hy]
      have := hin x hx; omega
  have hp : (sortI ([b, e + 1] ++ innerM ps b e)).Perm (b :: (innerM ps b e ++ [e + 1])) := by
    refine (List.mergeSort_perm _ leI).trans ?_
    rw [List.cons_append, List.cons_append, List.nil_append]
    exact List.Perm.cons _ (List.perm_append_singleton _ _).symm
  refine Asc.uniq ?_ hasc fun t => hp.mem_iff
  have h1 : (sortI ([b, e + 1] ++ innerM ps b e)).Pairwise (· ≤ ·) := (List.pairwise_mergeSort (le := leI) (fun a b c h1 h2 => by unfold leI at *; rw [decide_eq_true_eq] at *; omega) (fun a b => by unfold leI; rw [Bool.or_eq_true, decide_eq_true_eq, decide_eq_true_eq]; omega) _).imp fun {a b} h => by
    unfold leI at h
    rw [decide_eq_true_eq] at h
    exact h
  have h2 : (sortI ([b, e + 1] ++ innerM ps b e)).Nodup := hp.nodup_iff.mpr (hasc.imp fun h => by omega)
  exact (h1.and h2).imp fun ⟨z1, z2⟩ => by omega
theorem ok_above {d : D} {l : Fl} {ps : Sp} (h : Ti d l ps) (hp : Pts ps) (lv : Int) {b e : Int} (hb : -1000000 ≤ b) (he : e ≤ 1000000) (hbe : b ≤ e) (hbe2 : e - b ≤ 1000000) : F_Tide__spans_above [d, .int lv, .int b, .int e] = some (.ok (spD .o (ofP (highM ps lv b e))), [none, none, none, none]) := by
  obtain ⟨⟨m, rfl⟩, hr, hl⟩ := id h
  have hle := hp.le
  have hfl := List.length_filter_le (fun q : Int × Int => decide (b < q.1) && decide (q.1 ≤ e)) ps
  have hil : (innerM ps b e).length ≤ 60 := by unfold innerM; rw [List.length_map]; omega
  unfold F_Tide__spans_above
  refine fn_go rfl ?_
  show Go ev_Tide__spans_above [some (tiD m l ps), some (.int lv), some (.int b), some (.int e), none, none, none, none, none] _
  refine step [some (tiD m l ps), some (.int lv), some (.int b), some (.int e), some (miD .o (b :: (innerM ps b e ++ [e + 1]))), none, none, none, none] (fun k Q hk => ?_) ?_
  · have lk : ([D.int b, .int (e + 1)].length ≤ 1000) = True := eq_true (by simp)
    simp! [lk, hr.1, hr.2, itemsOf_lst hr.1]
    refine has_cmpF (fun q : Int × Int => decide (b < q.1) && decide (q.1 ≤ e)) (fun q => q.1) .int (fun _ => rfl) ps (by omega) (fun q _ => ?_) ?_
    · simp! [pr, ct_Tide__spans_above_0, ce_Tide__spans_above_1]
      by_cases h1 : b < q.1 <;> by_cases h2 : q.1 ≤ e <;> simp! [h1, h2, decide_true, decide_false]
    · have e1 : gAdd [.lst .o [.int b, .int (e + 1)], miD .o (innerM ps b e)] = some (miD .o (b :: (e + 1) :: innerM ps b e)) := add_i [b, e + 1] (innerM ps b e) (by simp; omega)
      have e2 := sorted_i (m := .o) rfl ([b, e + 1] ++ innerM ps b e) (by simp; omega)
      rw [cuts_eq hp.asc hbe] at e2
      simp only [List.cons_append, List.nil_append] at e2
      have e3 : (ps.filter fun q : Int × Int => decide (b < q.1) && decide (q.1 ≤ e)).map (fun q => q.1) = innerM ps b e := rfl
      simp! [e3, e1, e2]
      exact hk
  refine step [some (tiD m l ps), some (.int lv), some (.int b), some (.int e), some (miD .o (b :: (innerM ps b e ++ [e + 1]))), some (spD .o []), none, none, none] (fun k Q hk => ?_) ?_
  · simp! []
    exact hk
  rw [g_seq]
  have er := rng1_i (((b :: (innerM ps b e ++ [e + 1])).map D.int).length - 1) ⟨by simp; omega, by simp; omega⟩
  have en : (((b :: (innerM ps b e ++ [e + 1])).map D.int).length - 1 : Int).toNat = (innerM ps b e ++ [e + 1]).length := by simp
  rw [en] at er
  simp! []
  simp only [List.map_cons] at er
  simp! [er]
  have hin : ∀ x ∈ innerM ps b e, b < x ∧ x ≤ e := by
    intro x hx
    obtain ⟨q, hq, rfl⟩ := List.mem_map.mp hx
    have := (List.mem_filter.mp hq).2
    simpa using this
  refine lp_cuts h hp hb he hbe2 (innerM ps b e ++ [e + 1]) [] b [] none none none ?_ ?_ ?_ ?_ ?_ ?_ ?_
  · have := cuts_eq hp.asc hbe
    rw [List.nil_append]
    refine List.pairwise_cons.mpr ⟨fun x hx => ?_, List.pairwise_append.mpr ⟨?_, List.pairwise_singleton _ _, fun x hx y hy => ?_⟩⟩
    · rcases List.mem_append.mp hx with z | z
      · exact (hin x z).1
      · rw [List.mem_singleton.mp z]; omega
    · unfold innerM
      rw [List.pairwise_map]
      exact hp.asc.filter _
    · rw [List.mem_singleton.mp hy]
      have := hin x hx; omega
  · intro q hq h1 h2
    rw [List.nil_append]
    refine List.mem_cons_of_mem _ (List.mem_append_left _ (List.mem_map.mpr ⟨q, List.mem_filter.mpr ⟨hq, by simp [h1, h2]⟩, rfl⟩))
  · intro x hx
    rcases List.mem_cons.mp hx with z | z
    · omega
    · rcases List.mem_append.mp z with z | z
      · have := hin x z; omega
      · rw [List.mem_singleton.mp z]; omega
  · simp [List.getLast?_cons]
  · simp; omega
  · exact ⟨fun q hq => by simp at hq, fun t => ⟨fun z => (In_nil z).elim, fun z => by omega⟩⟩
  · intro acc a6 a7 a8 hl2 ha
    have et := ok_tidy (m := .l) rfl acc (by omega)
    obtain ⟨⟨c, g1⟩, g2⟩ := tidy_good ha.ok
    have e3 : tidyP acc = ofP (highM ps lv b e) := of_eq g1 fun t => by
      rw [g2, ha.inn, mem_high]
      constructor
      · rintro ⟨z1, z2⟩; exact ⟨by omega, z2⟩
      · rintro ⟨z1, z2⟩; exact ⟨by omega, z2⟩
    rw [e3] at et
    simp! [et]
    first | rfl | exact ⟨rfl, rfl⟩
end K13
namespace K13
open PySem PD
local macro_rules | `(tactic| simp! [$xs,*]) => `(tactic| simp only [e_cst, e_nil, e_yes, e_var, e_fv, e_mv, e_cons, e_dfr, e_op, e_tup, e_lst, e_tr, e_notT, e_andT, e_orT, e_andV, e_orV, e_notV, e_opq, e_if, e_call, e_callM, e_chain, e_src, e_rng, e_lc, g_nx, g_retN, g_brk, g_cnt, g_seq, g_drop, g_ret, g_asg, g_if, g_for, g_app, g_set, kk_ok, kS_ok, kQ_nx, kQ_rt, kQ_bk, kQ_ct, kk_ex, kS_ex, kQ_ex, g_raise, e_isi, g_asgT, e_grd, g_try, g_tryAs, g_appT, e_chainN, lkQ_1, lkQ_2, noX_rt, noX_nx, noX_bk, noX_ct, hdQ_0, hdQ_s, tryQ_ex, tryQ_rt, tryQ_nx, tryQ_bk, tryQ_ct, tasQ_ex, tasQ_rt, tasQ_nx, tasQ_bk, tasQ_ct, e_attr, g_setF, g_appF, e_meth, e_methM, e_make, g_asgL, mkQ_ok, mkQ_ex, e_dnew, g_dput, g_dputF, g_ddelF, g_ddel, g_dpopS, e_keys, e_isC, has_some, sl_0, sl_s, st_0, st_s, v_add, v_sub, v_neg, v_lt, v_le, v_gt, v_ge, v_eqi, v_nei, v_is, v_isNot, v_len, v_lenT, v_abs, v_int, v_intB, v_item, v_itemT, v_list, v_max, v_min, v_repr, blD_bl, truD_bl, truD_lst, isF_int, isF_bl, isF_non, isF_tup, isF_str, isF_lf, isF_lk, isF_lo, isF_ll, at_0, at_1, at_2, at_3, at_4, at_5, ix_0, ix_1, ix_2, cap_i, cap_t, noL_i, noL_n, noL_b, noL_t, ck_0, ck_s, lk_0, lk_1, lk_2, lk_3, lk_4, ln_0, ln_1, ln_2, ln_3, ln_4, own_o, own_l, own_f, its_o, its_l, its_f, lend_o, lend_i, lend_b, lend_n, lend_s, lend_t, cap_k, cap_f, lend_l, lend_f, sh_o, sh_l, sh_f, sh_k, Bool.or_true, Bool.true_or, Bool.or_false, Bool.false_or, intD, isLst, lstO, List.set_cons_zero, List.set_cons_succ, bind_S, ty_i, ty_b, ty_s, ty_t, ty_l, ty_n, is_ii, is_ib, is_is, is_it, is_il, is_bi, is_bb, is_bs, is_bt, is_bl, is_si, is_sb, is_ss, is_st, is_sl, is_ti, is_tb, is_ts, is_tt, is_tl, is_li, is_lb, is_ls, is_lt, is_ll, is_ni, is_nb, is_ns, is_nt, is_nl, v_eqS, v_neS, v_inS, v_notInS, truD_n, truD_t, cap_o, cap_s, cap_n, cap_b, noL_s, its_t, own_t, own_s, its_s, sv_n, sv_i, sv_s, sv_b, isStr_s, isNon_n, isNon_i, isNon_s, isNon_t, isNon_l, v_tup, noL_lo, noL_lf, frz_lo, frz_lf, insOf_s, insO_s, isIns_s, lstS_o, lstS_l, lstS_f, v_rev, lend_ioo, lend_ill, lend_if, lendN_0, lendN_s, frzN_0, frzN_s, cap_ioo, cap_if, frz_ioo, isF_ioo, isF_ill, isF_if, lstO_o, lk_00, pu_00, lk_01, pu_01, lk_02, pu_02, lk_03, pu_03, lk_04, pu_04, lk_05, pu_05, lk_06, pu_06, lk_10, pu_10, lk_11, pu_11, lk_12, pu_12, lk_13, pu_13, lk_14, pu_14, lk_15, pu_15, lk_16, pu_16, lk_20, pu_20, lk_21, pu_21, lk_22, pu_22, lk_23, pu_23, lk_24, pu_24, lk_25, pu_25, lk_26, pu_26, lk_30, pu_30, lk_31, pu_31, lk_32, pu_32, lk_33, pu_33, lk_34, pu_34, lk_35, pu_35, lk_36, pu_36, lk_40, pu_40, lk_41, pu_41, lk_42, pu_42, lk_43, pu_43, lk_44, pu_44, lk_45, pu_45, lk_46, pu_46, lk_50, pu_50, lk_51, pu_51, lk_52, pu_52, lk_53, pu_53, lk_54, pu_54, lk_55, pu_55, lk_56, pu_56, lk_60, pu_60, lk_61, pu_61, lk_62, pu_62, lk_63, pu_63, lk_64, pu_64, lk_65, pu_65, lk_66, pu_66, pu_n, l3_0, l3_1, l3_2, l3_3, l3_4, l3_5, l3_6, l3_7, dcO_o, key_s, key_i, isDic_d, isF_do, isF_dl, isF_df, lend_do, lend_dl, lend_df, frz_do, frz_df, cap_do, cap_df, noL_do, noL_df, own_d, v_itemUl, v_itemUt, v_inUl, v_inUt, v_notInUl, v_notInUt, v_inUs, v_inUi, v_notInUs, v_notInUi, v_lenUd, v_lenUl, v_lenUt, v_sortedUl, noL_ioo, noL_if, noL_ill, noLN_0, noLN_s, isC_1, isC_int, dcS_o, dcS_l, dcS_f, forL_0, kL_nx, kL_ct, kL_bk, kL_rt, kL_ex, tg_n, tg_t, tg_0, tg_s, wp_0, wp_s, bk_0, bk_s, rd_0, rd_s, sb_a, sb_l, si_a, si_l, hd_0, out_t, out_f, argD, ite_self, List.map_cons, List.map_nil, List.append_nil, List.cons_append, List.nil_append, Bool.and_true, Bool.true_and, Bool.not_true, Bool.not_false, Bool.and_false, Bool.false_and, true_and, and_true, decide_eq_true_eq, Bool.false_eq_true, if_false, if_true, ite_true, ite_false, reduceIte, Bool.not_eq_true', Bool.true_eq_false, eq_self, $xs,*])
/-! turned -/
def turnL (h f : Int) : Sp → Sp
  | [] => if f ≤ h then [(f, h)] else []
  | q :: r => (if f < q.1 then [(f, min (q.1 - 1) h)] else []) ++ turnL h (max f (q.2 + 1)) r
def turnA (h f : Int) : Sp → Sp
  | [] => []
  | q :: r => (if f < q.1 then [(f, min (q.1 - 1) h)] else []) ++ turnA h (max f (q.2 + 1)) r
def turnF (f : Int) : Sp → Int
  | [] => f
  | q :: r => turnF (max f (q.2 + 1)) r
theorem turn_eq (h : Int) : ∀ (xs : Sp) (f : Int), turnL h f xs = turnA h f xs ++ if turnF f xs ≤ h then [(turnF f xs, h)] else []
  | [], f => rfl
  | q :: r, f => by rw [turnL, turnA, turnF, turn_eq h r, List.append_assoc]
theorem turnA_len (h : Int) : ∀ (xs : Sp) (f : Int), (turnA h f xs).length ≤ xs.length
  | [], f => Nat.le_refl _
  | q :: r, f => by
    have := turnA_len h r (max f (q.2 + 1))
    rw [turnA]
    split <;> simp <;> omega
def turnP (xs : Sp) (l h : Int) : Sp := (turnL h l xs).filter fun s => decide (s.1 ≤ s.2) && decide (s.1 ≤ h)
theorem lp_turnd {s0 s1 a7 : Option D} {h : Int} {K : ES → Prop} : ∀ (xs acc : Sp) (f : Int) (a5 a6 : Option D), acc.length + xs.length ≤ 900000 → (∀ a5 a6, K (.nx, [s0, s1, some (.int h), some (spD .o (acc ++ turnA h f xs)), some (.int (turnF f xs)), a5, a6, a7])) →
    has (evForL (tgTup [5, 6]) bd_turned_0 (xs.map pr) [s0, s1, some (.int h), some (spD .o acc), some (.int f), a5, a6, a7]) K
  | [], acc, f, a5, a6, hl, hh => by
    simp! []
    simp only [turnA, turnF, List.append_nil] at hh
    exact hh _ _
  | q :: r, acc, f, a5, a6, hl, hh => by
    simp only [List.length_cons] at hl
    have hl2 : (acc.map pr).length < 1000000 := by rw [List.length_map]; omega
    simp! [List.map_cons, forL_s, pr, bd_turned_0]
    by_cases h1 : f < q.1 <;> simp! [h1] <;> simp only [turnA, turnF, h1, ite_true, ite_false, if_true, if_false, List.nil_append] at hh
    · refine ⟨hl2, ?_⟩
      rw [snoc]
      refine lp_turnd r (acc ++ [(f, min (q.1 - 1) h)]) _ _ _ (by simp; omega) ?_
      simpa using hh
    · exact lp_turnd r acc _ _ _ (by omega) hh
theorem ok_turned {m : Fl} (hm : RO m) (xs : Sp) (l h : Int) (hl : xs.length ≤ 1000) : F_turned [spD m xs, .int l, .int h] = some (.ok (spD .o (turnP xs l h)), [none, none, none]) := by
  unfold F_turned
  refine fn_go rfl ?_
  show Go ev_turned [some (spD m xs), some (.int l), some (.int h), none, none, none, none, none] _
  simp! [ev_turned, itemsOf_lst hm.1, hm.2]
  refine lp_turnd xs [] l _ _ (by simp; omega) fun a5 a6 => ?_
  have la := turnA_len h xs l
  have key : ∀ (ys : Sp) (a4 : Option D) (K : List D × DS → Prop), ys.length ≤ 2000 → K ((ys.filter fun s => decide (s.1 ≤ s.2) && decide (s.1 ≤ h)).map pr, [some (spD m xs), some (.int l), some (.int h), some (.lst .l (ys.map pr)), a4, a5, a6, none]) →
      has (evCmp (tgName 7) ct_turned_1 ce_turned_2 [7] (ys.map pr) [] [some (spD m xs), some (.int l), some (.int h), some (.lst .l (ys.map pr)), a4, a5, a6, none]) K := fun ys a4 K hy hK => by
    refine has_cmp (fun s : Int × Int => decide (s.1 ≤ s.2) && decide (s.1 ≤ h)) pr ys (by simp; omega) (fun s _ => ?_) ?_
    · simp! [pr, ct_turned_1, ce_turned_2]
      by_cases h1 : s.1 ≤ s.2 <;> by_cases h2 : s.1 ≤ h <;> simp [h1, h2, e_cst, e_nil, e_yes, e_var, e_fv, e_mv, e_cons, e_dfr, e_op, e_tup, e_lst, e_tr, e_notT, e_andT, e_orT, e_andV, e_orV, e_notV, e_opq, e_if, e_call, e_callM, e_chain, e_src, e_rng, e_lc, g_nx, g_retN, g_brk, g_cnt, g_seq, g_drop, g_ret, g_asg, g_if, g_for, g_app, g_set, kk_ok, kS_ok, kQ_nx, kQ_rt, kQ_bk, kQ_ct, kk_ex, kS_ex, kQ_ex, g_raise, e_isi, g_asgT, e_grd, g_try, g_tryAs, g_appT, e_chainN, lkQ_1, lkQ_2, noX_rt, noX_nx, noX_bk, noX_ct, hdQ_0, hdQ_s, tryQ_ex, tryQ_rt, tryQ_nx, tryQ_bk, tryQ_ct, tasQ_ex, tasQ_rt, tasQ_nx, tasQ_bk, tasQ_ct, e_attr, g_setF, g_appF, e_meth, e_methM, e_make, g_asgL, mkQ_ok, mkQ_ex, e_dnew, g_dput, g_dputF, g_ddelF, g_ddel, g_dpopS, e_keys, e_isC, has_some, sl_0, sl_s, st_0, st_s, v_add, v_sub, v_neg, v_lt, v_le, v_gt, v_ge, v_eqi, v_nei, v_is, v_isNot, v_len, v_lenT, v_abs, v_int, v_intB, v_item, v_itemT, v_list, v_max, v_min, v_repr, blD_bl, truD_bl, truD_lst, isF_int, isF_bl, isF_non, isF_tup, isF_str, isF_lf, isF_lk, isF_lo, isF_ll, at_0, at_1, at_2, at_3, at_4, at_5, ix_0, ix_1, ix_2, cap_i, cap_t, noL_i, noL_n, noL_b, noL_t, ck_0, ck_s, lk_0, lk_1, lk_2, lk_3, lk_4, ln_0, ln_1, ln_2, ln_3, ln_4, own_o, own_l, own_f, its_o, its_l, its_f, lend_o, lend_i, lend_b, lend_n, lend_s, lend_t, cap_k, cap_f, lend_l, lend_f, sh_o, sh_l, sh_f, sh_k, Bool.or_true, Bool.true_or, Bool.or_false, Bool.false_or, intD, isLst, lstO, List.set_cons_zero, List.set_cons_succ, bind_S, ty_i, ty_b, ty_s, ty_t, ty_l, ty_n, is_ii, is_ib, is_is, is_it, is_il, is_bi, is_bb, is_bs, is_bt, is_bl, is_si, is_sb, is_ss, is_st, is_sl, is_ti, is_tb, is_ts, is_tt, is_tl, is_li, is_lb, is_ls, is_lt, is_ll, is_ni, is_nb, is_ns, is_nt, is_nl, v_eqS, v_neS, v_inS, v_notInS, truD_n, truD_t, cap_o, cap_s, cap_n, cap_b, noL_s, its_t, own_t, own_s, its_s, sv_n, sv_i, sv_s, sv_b, isStr_s, isNon_n, isNon_i, isNon_s, isNon_t, isNon_l, v_tup, noL_lo, noL_lf, frz_lo, frz_lf, insOf_s, insO_s, isIns_s, lstS_o, lstS_l, lstS_f, v_rev, lend_ioo, lend_ill, lend_if, lendN_0, lendN_s, frzN_0, frzN_s, cap_ioo, cap_if, frz_ioo, isF_ioo, isF_ill, isF_if, lstO_o, lk_00, pu_00, lk_01, pu_01, lk_02, pu_02, lk_03, pu_03, lk_04, pu_04, lk_05, pu_05, lk_06, pu_06, lk_10, pu_10, lk_11, pu_11, lk_12, pu_12, lk_13, pu_13, lk_14, pu_14, lk_15, pu_15, lk_16, pu_16, lk_20, pu_20, lk_21, pu_21, lk_22, pu_22, lk_23, pu_23, lk_24, pu_24, lk_25, pu_25, lk_26, pu_26, lk_30, pu_30, lk_31, pu_31, lk_32, pu_32, lk_33, pu_33, lk_34, pu_34, lk_35, pu_35, lk_36, pu_36, lk_40, pu_40, lk_41, pu_41, lk_42, pu_42, lk_43, pu_43, lk_44, pu_44, lk_45, pu_45, lk_46, pu_46, lk_50, pu_50, lk_51, pu_51, lk_52, pu_52, lk_53, pu_53, lk_54, pu_54, lk_55, pu_55, lk_56, pu_56, lk_60, pu_60, lk_61, pu_61, lk_62, pu_62, lk_63, pu_63, lk_64, pu_64, lk_65, pu_65, lk_66, pu_66, pu_n, l3_0, l3_1, l3_2, l3_3, l3_4, l3_5, l3_6, l3_7, dcO_o, key_s, key_i, isDic_d, isF_do, isF_dl, isF_df, lend_do, lend_dl, lend_df, frz_do, frz_df, cap_do, cap_df, noL_do, noL_df, own_d, v_itemUl, v_itemUt, v_inUl, v_inUt, v_notInUl, v_notInUt, v_inUs, v_inUi, v_notInUs, v_notInUi, v_lenUd, v_lenUl, v_lenUt, v_sortedUl, noL_ioo, noL_if, noL_ill, noLN_0, noLN_s, isC_1, isC_int, dcS_o, dcS_l, dcS_f, forL_0, kL_nx, kL_ct, kL_bk, kL_rt, kL_ex, tg_n, tg_t, tg_0, tg_s, wp_0, wp_s, bk_0, bk_s, rd_0, rd_s, sb_a, sb_l, si_a, si_l, hd_0, out_t, out_f, argD, ite_self, List.map_cons, List.map_nil, List.append_nil, List.cons_append, List.nil_append, Bool.and_true, Bool.true_and, Bool.not_true, Bool.not_false, Bool.and_false, Bool.false_and, true_and, and_true, decide_eq_true_eq, Bool.false_eq_true, if_false, if_true, ite_true, ite_false, reduceIte, Bool.not_eq_true', Bool.true_eq_false, eq_self]
    · exact hK
  simp! [List.nil_append]
  by_cases h1 : turnF l xs ≤ h
  · simp! [h1]
    refine ⟨by simp; omega, ?_⟩
    rw [snoc]
    refine key _ _ _ (by simp; omega) ?_
    simp! []
    unfold turnP
    rw [turn_eq, if_pos h1]; rfl
  · simp! [h1]
    refine key _ _ _ (by omega) ?_
    simp! []
    unfold turnP
    rw [turn_eq, if_neg h1, List.append_nil]; rfl
theorem turn_good {h : Int} : ∀ {b : Int} {xs : Sp} (f : Int), Good b xs → Good f ((turnL h f xs).filter fun s => decide (s.1 ≤ s.2) && decide (s.1 ≤ h)) ∧ ∀ t, In ((turnL h f xs).filter fun s => decide (s.1 ≤ s.2) && decide (s.1 ≤ h)) t ↔ (f ≤ t ∧ t ≤ h) ∧ ¬ In xs t
  | _, [], f, _ => by
    rw [turnL]
    by_cases hf : f ≤ h
    · rw [if_pos hf, List.filter_cons_of_pos (by simp [hf]), List.filter_nil]
      refine ⟨⟨Int.le_refl _, hf, trivial⟩, fun t => ?_⟩
      rw [In_cons]
      unfold on
      exact ⟨fun z => z.elim (fun z => ⟨z, In_nil⟩) fun z => (In_nil z).elim, fun z => .inl z.1⟩
    · rw [if_neg hf, List.filter_nil]
      exact ⟨trivial, fun t => ⟨fun z => (In_nil z).elim, fun z => by omega⟩⟩
  | b, q :: r, f, ⟨h1, h2, h3⟩ => by
    obtain ⟨g1, g2⟩ := turn_good (h := h) (max f (q.2 + 1)) h3
    have lo : ∀ t, In r t → q.2 + 2 ≤ t := fun t z => h3.lo z
    rw [turnL, List.filter_append]
    by_cases hf : f < q.1
    · rw [if_pos hf]
      by_cases hk : f ≤ h
      · rw [List.filter_cons_of_pos (by simp; omega), List.filter_nil]
        refine ⟨⟨Int.le_refl _, by simp only; omega, g1.le (by simp only; omega)⟩, fun t => ?_⟩
        rw [List.singleton_append, In_cons, g2, In_cons]
        unfold on
        simp only
        constructor
        · rintro (z | ⟨z1, z2⟩)
          · refine ⟨by omega, fun y => ?_⟩
            rcases y with y | y
            · omega
            · have := lo t y; omega
          · refine ⟨by omega, fun y => ?_⟩
            rcases y with y | y
            · omega
            · exact z2 y
        · rintro ⟨z1, z2⟩
          by_cases y : t < q.1
          · exact .inl (by omega)
          · refine .inr ⟨?_, fun w => z2 (.inr w)⟩
            have : ¬ (t ≤ q.2) := fun w => z2 (.inl ⟨by omega, w⟩)
            omega
      · rw [List.filter_cons_of_neg (by simp; omega), List.filter_nil, List.nil_append]
        refine ⟨g1.le (by omega), fun t => ?_⟩
        rw [g2, In_cons]
        exact ⟨fun z => by omega, fun z => by omega⟩
    · rw [if_neg hf, List.filter_nil, List.nil_append]
      refine ⟨g1.le (by omega), fun t => ?_⟩
      rw [g2, In_cons]
      unfold on
      constructor
      · rintro ⟨z1, z2⟩
        refine ⟨by omega, fun y => ?_⟩
        rcases y with y | y
        · omega
        · exact z2 y
      · rintro ⟨z1, z2⟩
        have : ¬ (t ≤ q.2) := fun w => z2 (.inl ⟨by omega, w⟩)
        exact ⟨by omega, fun w => z2 (.inr w)⟩
/-! spans of minutes -/
theorem of_len : ∀ {c : Int × Int} {r : List Int}, (ofL c r).length ≤ r.length + 1
  | c, [] => by simp [ofL]
  | c, v :: r => by
    rw [ofL]
    split
    · have := of_len (c := (c.1, v)) (r := r); simp; omega
    · have := of_len (c := (v, v)) (r := r); simp; omega
theorem ofP_len (xs : List Int) : (ofP xs).length ≤ xs.length := by
  unfold ofP
  have h : (sortI xs).length = xs.length := List.length_mergeSort _
  rw [← h]
  cases sortI xs with
  | nil => simp [ofR]
  | cons v r => have := of_len (c := (v, v)) (r := r); simpa [ofR] using this
theorem len_of {ms : List Int} (h : Asc ms) : lengthP (ofP ms) = ms.length := by
  obtain ⟨⟨c, g1⟩, g2⟩ := of_good ms
  rw [len_ex g1]
  congr 2
  exact (ex_asc g1).uniq h fun t => by rw [mem_ex g1, g2]
theorem meet_of {xs ys ms : List Int} (h : ∀ t, t ∈ xs ∧ t ∈ ys ↔ t ∈ ms) : meetP (ofP xs) (ofP ys) = ofP ms := by
  obtain ⟨⟨c, g1⟩, g2⟩ := of_good xs
  obtain ⟨⟨c', k1⟩, k2⟩ := of_good ys
  obtain ⟨m1, m2⟩ := meet_good k1 g1
  exact of_eq m1 fun t => by rw [m2, g2, k2, h]
theorem turn_of {A ms : List Int} {b e : Int} (h : ∀ t, (b ≤ t ∧ t ≤ e) ∧ ¬ t ∈ A ↔ t ∈ ms) : turnP (ofP A) b e = ofP ms := by
  obtain ⟨⟨c, g1⟩, g2⟩ := of_good A
  obtain ⟨k1, k2⟩ := turn_good (h := e) b g1
  show (turnL e b (ofP A)).filter (fun s => decide (s.1 ≤ s.2) && decide (s.1 ≤ e)) = _
  exact of_eq k1 fun t => by rw [k2, g2, h]
theorem turnP_len (xs : Sp) (l h : Int) : (turnP xs l h).length ≤ xs.length + 1 := by
  unfold turnP
  refine Nat.le_trans (List.length_filter_le _ _) ?_
  rw [turn_eq, List.length_append]
  have := turnA_len h xs l
  split <;> simp <;> omega
theorem sortI_asc {xs : List Int} (h : Asc xs) : sortI xs = xs := by
  have hp : (sortI xs).Perm xs := List.mergeSort_perm _ leI
  refine Asc.uniq ?_ h fun t => hp.mem_iff
  have h1 : (sortI xs).Pairwise (· ≤ ·) := (List.pairwise_mergeSort (le := leI) (fun a b c h1 h2 => by unfold leI at *; rw [decide_eq_true_eq] at *; omega) (fun a b => by unfold leI; rw [Bool.or_eq_true, decide_eq_true_eq, decide_eq_true_eq]; omega) _).imp fun {a b} h => by
    unfold leI at h
    rw [decide_eq_true_eq] at h
    exact h
  have h2 : (sortI xs).Nodup := hp.nodup_iff.mpr (h.imp fun h => by omega)
  exact (h1.and h2).imp fun ⟨z1, z2⟩ => by omega
theorem high_asc (ps : Sp) (lv b e : Int) : Asc (highM ps lv b e) := (mins_asc _ _).filter _
theorem high_len (ps : Sp) (lv b e : Int) : (highM ps lv b e).length ≤ (e + 1 - b).toNat := by
  have := List.length_filter_le (fun t => decide (lv ≤ H ps t)) (mins b (e + 1 - b).toNat)
  rw [mins_len] at this
  exact this
/-! rises and falls -/
def risM (ps : Sp) (s b e : Int) : List Int := (mins b (e + 1 - b).toNat).filter fun t => decide (0 < s * (H ps (t + 1) - H ps t))
theorem ris_asc (ps : Sp) (s b e : Int) : Asc (risM ps s b e) := (mins_asc _ _).filter _
section
theorem lp_where {d : D} {l : Fl} {ps : Sp} (h : Ti d l ps) (hp : Pts ps) {s1 s2 : Option D} {s : Int} (hs : -1000000 ≤ s ∧ s ≤ 1000000) {K : ES → Prop} : ∀ (xs : List Int) (pre : Sp) (c : Int × Int) (a5 : Option D), pre.length + xs.length ≤ 900000 → Asc (c.2 :: xs) → (∀ a5, K (.nx, [some d, s1, s2, some (.int s), some (spD .o (pre ++ ofL c (xs.filter fun t => decide (0 < s * (H ps (t + 1) - H ps t))))), a5])) →
    has (evForL (tgName 5) bd__spans_where_0 (xs.map .int) [some d, s1, s2, some (.int s), some (.lst .o (pre.map pr ++ [.tup [.int c.1, .int c.2]])), a5]) K
  | [], pre, c, a5, hl, ha, hK => by
    simp! []
    rw [snoc]; exact hK _
  | t :: r, pre, c, a5, hl, ha, hK => by
    simp only [List.length_cons] at hl
    have ha1 := List.pairwise_cons.mp ha
    have ha2 := List.pairwise_cons.mp ha1.2
    have hct : c.2 < t := ha1.1 t List.mem_cons_self
    have hl2 : (pre.map pr ++ [D.tup [.int c.1, .int c.2]]).length < 1000000 := by simp; omega
    have e1 := ok_height h hp (t + 1)
    have e2 := ok_height h hp t
    have em := mulS (i := s) (j := H ps (t + 1) - H ps t) hs
    obtain ⟨⟨m, rfl⟩, hr, hld⟩ := id h
    simp! [List.map_cons, forL_s, bd__spans_where_0, hld, e1, e2, em, at_last, ix_last, set_last, emp_last]
    by_cases hq : 0 < s * (H ps (t + 1) - H ps t)
    · rw [List.filter_cons_of_pos (by simpa using hq)] at hK
      by_cases h1 : c.2 = t - 1
      · simp! [hq, h1, at_last, ix_last, set_last, emp_last, decide_true]
        rw [ofL, if_pos (by omega)] at hK
        exact lp_where h hp hs r pre (c.1, t) _ (by omega) ha1.2 hK
      · simp! [hq, h1, at_last, ix_last, set_last, emp_last, decide_true, decide_false]
        rw [ofL, if_neg (by omega)] at hK
        refine ⟨hl2, ?_⟩
        rw [snoc]
        refine lp_where h hp hs r (pre ++ [(c.1, c.2)]) (t, t) _ (by simp; omega) ha1.2 ?_
        simpa using hK
    · rw [List.filter_cons_of_neg (by simpa using hq)] at hK
      simp! [hq]
      exact lp_where h hp hs r pre c _ (by omega) (List.pairwise_cons.mpr ⟨fun x hx => ha1.1 x (List.mem_cons_of_mem _ hx), ha2.2⟩) hK
theorem lp_where0 {d : D} {l : Fl} {ps : Sp} (h : Ti d l ps) (hp : Pts ps) {s1 s2 : Option D} {s : Int} (hs : -1000000 ≤ s ∧ s ≤ 1000000) {K : ES → Prop} : ∀ (xs : List Int) (a5 : Option D), xs.length ≤ 900000 → Asc xs → (∀ a5, K (.nx, [some d, s1, s2, some (.int s), some (spD .o (ofR (xs.filter fun t => decide (0 < s * (H ps (t + 1) - H ps t))))), a5])) →
    has (evForL (tgName 5) bd__spans_where_0 (xs.map .int) [some d, s1, s2, some (.int s), some (.lst .o []), a5]) K
  | [], a5, hl, ha, hK => by
    simp! []
    exact hK _
  | t :: r, a5, hl, ha, hK => by
    simp only [List.length_cons] at hl
    have ha1 := List.pairwise_cons.mp ha
    have e1 := ok_height h hp (t + 1)
    have e2 := ok_height h hp t
    have em := mulS (i := s) (j := H ps (t + 1) - H ps t) hs
    obtain ⟨⟨m, rfl⟩, hr, hld⟩ := id h
    simp! [List.map_cons, forL_s, bd__spans_where_0, hld, e1, e2, em]
    by_cases hq : 0 < s * (H ps (t + 1) - H ps t)
    · rw [List.filter_cons_of_pos (by simpa using hq)] at hK
      simp! [hq, List.isEmpty_nil, Bool.not_true]
      refine ⟨by simp, ?_⟩
      exact lp_where h hp hs r [] (t, t) _ (by simp; omega) ha hK
    · rw [List.filter_cons_of_neg (by simpa using hq)] at hK
      simp! [hq]
      exact lp_where0 h hp hs r _ (by omega) ha1.2 hK
theorem ok_where {d : D} {l : Fl} {ps : Sp} (h : Ti d l ps) (hp : Pts ps) {s b e : Int} (hs : -1000000 ≤ s ∧ s ≤ 1000000) (hb : -1000000 ≤ b) (he : e ≤ 1000000) (hb0 : b ≤ e) (hbe : e - b ≤ 800000) : F__spans_where [d, .int b, .int e, .int s] = some (.ok (spD .o (ofP (risM ps s b e))), [none, none, none, none]) := by
  unfold F__spans_where
  refine fn_go rfl ?_
  show Go ev__spans_where [some d, some (.int b), some (.int e), some (.int s), none, none] _
  have er := rng2_i b (e + 1) ⟨by omega, by omega, by omega, by omega⟩
  simp! [ev__spans_where, er]
  refine lp_where0 h hp hs (mins b (e + 1 - b).toNat) _ (by rw [mins_len]; omega) (mins_asc _ _) fun a5 => ?_
  have e0 : ofP (risM ps s b e) = ofR (risM ps s b e) := by unfold ofP; rw [sortI_asc (ris_asc ps s b e)]
  rw [e0]
  simp! []
  first | rfl | exact ⟨rfl, rfl⟩
theorem ok_flood {d : D} {l : Fl} {ps : Sp} (h : Ti d l ps) (hp : Pts ps) {b e : Int} (hb : -1000000 ≤ b) (he : e ≤ 1000000) (hb0 : b ≤ e) (hbe : e - b ≤ 800000) : F_flood [d, .int b, .int e] = some (.ok (spD .o (ofP (risM ps 1 b e))), [none, none, none]) := by
  unfold F_flood
  refine fn_go rfl ?_
  show Go ev_flood [some d, some (.int b), some (.int e)] _
  have e1 := ok_where h hp (s := 1) (b := b) (e := e) (by decide) hb he hb0 hbe
  obtain ⟨⟨m, rfl⟩, hr, hld⟩ := id h
  simp! [ev_flood, hld, e1]
  first | rfl | exact ⟨rfl, rfl⟩
theorem ok_ebb {d : D} {l : Fl} {ps : Sp} (h : Ti d l ps) (hp : Pts ps) {b e : Int} (hb : -1000000 ≤ b) (he : e ≤ 1000000) (hb0 : b ≤ e) (hbe : e - b ≤ 800000) : F_ebb [d, .int b, .int e] = some (.ok (spD .o (ofP (risM ps (-1) b e))), [none, none, none]) := by
  unfold F_ebb
  refine fn_go rfl ?_
  show Go ev_ebb [some d, some (.int b), some (.int e)] _
  have e1 := ok_where h hp (s := -1) (b := b) (e := e) (by decide) hb he hb0 hbe
  obtain ⟨⟨m, rfl⟩, hr, hld⟩ := id h
  simp! [ev_ebb, hld, e1]
  first | rfl | exact ⟨rfl, rfl⟩
/-! turns -/
def pb (q : Int × Bool) : D := .tup [.int q.1, .bl q.2]
def trn (b e : Int) (q : Int × Int) : List (Int × Bool) := (if b < q.1 then [(q.1, true)] else []) ++ (if q.2 < e then [(q.2 + 1, false)] else [])
def trnL (b e : Int) : Sp → List (Int × Bool)
  | [] => []
  | q :: r => trn b e q ++ trnL b e r
theorem trn_len (b e : Int) (q : Int × Int) : (trn b e q).length ≤ 2 := by unfold trn; split <;> split <;> simp
theorem lp_turns {s0 s1 : Option D} {b e : Int} {K : ES → Prop} : ∀ (xs : Sp) (acc : List (Int × Bool)) (a5 a6 : Option D), acc.length + 2 * xs.length ≤ 900000 → (∀ a5 a6, K (.nx, [s0, s1, some (.int b), some (.int e), some (.lst .o ((acc ++ trnL b e xs).map pb)), a5, a6])) →
    has (evForL (tgTup [5, 6]) bd_turns_of_0 (xs.map pr) [s0, s1, some (.int b), some (.int e), some (.lst .o (acc.map pb)), a5, a6]) K
  | [], acc, a5, a6, hl, hK => by
    simp! []
    simp only [trnL, List.append_nil] at hK
    exact hK _ _
  | q :: r, acc, a5, a6, hl, hK => by
    simp only [List.length_cons] at hl
    have hl2 : (acc.map pb).length < 1000000 := by rw [List.length_map]; omega
    have hl3 : ∀ x : D, (acc.map pb ++ [x]).length < 1000000 := fun x => by rw [List.length_append, List.length_map]; simp; omega
    have ht := trn_len b e q
    have key := lp_turns (s0 := s0) (s1 := s1) (K := K) r (acc ++ trn b e q) (some (.int q.1)) (some (.int q.2)) (by rw [List.length_append]; omega) (by simpa only [List.append_assoc, trnL] using hK)
    simp! [List.map_cons, forL_s, bd_turns_of_0, pr]
    unfold trn at key
    by_cases h1 : b < q.1 <;> by_cases h2 : q.2 < e <;> simp! [h1, h2] <;> simp only [h1, h2, if_true, if_false, List.append_nil, List.nil_append, List.map_append, List.map_cons, List.map_nil, pb] at key
    · exact ⟨hl2, hl3 _, by rw [List.append_assoc]; exact key⟩
    · exact ⟨hl2, key⟩
    · exact ⟨hl2, key⟩
    · exact key
theorem ok_turns {d : D} {l : Fl} {ps : Sp} (h : Ti d l ps) (hp : Pts ps) (lv : Int) {b e : Int} (hb : -1000000 ≤ b) (he : e ≤ 1000000) (hbe : b ≤ e) (hbe2 : e - b ≤ 100000) : F_turns_of [d, .int lv, .int b, .int e] = some (.ok (.lst .o ((trnL b e (ofP (highM ps lv b e))).map pb)), [none, none, none, none]) := by
  unfold F_turns_of
  refine fn_go rfl ?_
  show Go ev_turns_of [some d, some (.int lv), some (.int b), some (.int e), none, none, none] _
  have e1 := ok_above h hp lv hb he hbe (by omega)
  have l1 := ofP_len (highM ps lv b e)
  have l2 := high_len ps lv b e
  obtain ⟨⟨m, rfl⟩, hr, hld⟩ := id h
  simp! [ev_turns_of, hld, e1]
  refine lp_turns (ofP (highM ps lv b e)) [] _ _ (by simp; omega) fun a5 a6 => ?_
  simp! []
  first | rfl | exact ⟨rfl, rfl⟩
/-! the highest -/
theorem G_max {b e M t : Int} (hbt : b ≤ t) (hte : t ≤ e) : ∀ (xs : Sp) (p : Int × Int), p.1 ≤ t → AscP (p :: xs) → (b ≤ p.1 → p.2 ≤ M) → (p.1 ≤ b → G p xs b ≤ M) → G p xs e ≤ M → (∀ q ∈ xs, b ≤ q.1 → q.1 ≤ e → q.2 ≤ M) → G p xs t ≤ M
  | [], p, _, _, _, _, h3, _ => h3
  | q :: r, p, hpt, ha, h1, h2, h3, h4 => by
    have ha1 := List.pairwise_cons.mp ha
    have hpq : p.1 < q.1 := ha1.1 q List.mem_cons_self
    have b0 : btw p q p.1 = p.2 := by unfold btw; rw [Int.sub_self, Int.mul_zero, Int.zero_ediv, Int.add_zero]
    have b1 : btw p q q.1 = q.2 := by
      unfold btw
      rw [Int.mul_ediv_cancel _ (by omega)]; omega
    rw [G] at h2 h3 ⊢
    by_cases hq : t < q.1
    · rw [if_pos hq]
      rw [if_pos (by omega)] at h2
      obtain ⟨x0, x1, x2⟩ : ∃ x0, x0 ≤ t ∧ btw p q x0 ≤ M := by
        by_cases z : b ≤ p.1
        · exact ⟨p.1, hpt, by rw [b0]; exact h1 z⟩
        · exact ⟨b, hbt, h2 (by omega)⟩
      obtain ⟨y0, y1, y2⟩ : ∃ y0, t ≤ y0 ∧ btw p q y0 ≤ M := by
        by_cases z : q.1 ≤ e
        · exact ⟨q.1, by omega, by rw [b1]; exact h4 q List.mem_cons_self (by omega) z⟩
        · rw [if_pos (by omega)] at h3
          exact ⟨e, hte, h3⟩
      rcases Int.le_total p.2 q.2 with z | z
      · have := btw_up hpq z y1; omega
      · have := btw_down hpq z x1; omega
    · rw [if_neg hq]
      rw [if_neg (by omega)] at h3
      refine G_max hbt hte r q (by omega) ha1.2 (fun z => h4 q List.mem_cons_self z (by omega)) (fun z => ?_) h3 fun s hs => h4 s (List.mem_cons_of_mem _ hs)
      have := h2 (by omega)
      rwa [if_neg (by omega)] at this
theorem G_at {q : Int × Int} : ∀ (xs : Sp) (p : Int × Int), AscP (p :: xs) → q ∈ p :: xs → G p xs q.1 = q.2
  | [], p, _, h => by rw [List.mem_singleton.mp h]; rfl
  | s :: r, p, ha, h => by
    have ha1 := List.pairwise_cons.mp ha
    have hps : p.1 < s.1 := ha1.1 s List.mem_cons_self
    rw [G]
    rcases List.mem_cons.mp h with rfl | h
    · rw [if_pos hps]
      unfold btw; rw [Int.sub_self, Int.mul_zero, Int.zero_ediv, Int.add_zero]
    · have : s.1 ≤ q.1 := by
        rcases List.mem_cons.mp h with rfl | h
        · exact Int.le_refl _
        · have := (List.pairwise_cons.mp ha1.2).1 q h; omega
      rw [if_neg (by omega)]
      exact G_at r s ha1.2 h
theorem H_at {ps : Sp} (ha : AscP ps) {q : Int × Int} (h : q ∈ ps) : H ps q.1 = q.2 := by
  cases ps with
  | nil => simp at h
  | cons p r =>
    have : p.1 ≤ q.1 := by
      rcases List.mem_cons.mp h with rfl | h
      · exact Int.le_refl _
      · have := (List.pairwise_cons.mp ha).1 q h; omega
    rw [H, if_neg (by omega)]
    exact G_at r p ha h
theorem H_max {ps : Sp} (ha : AscP ps) {b e M t : Int} (hbt : b ≤ t) (hte : t ≤ e) (h1 : H ps b ≤ M) (h2 : H ps e ≤ M) (h3 : ∀ q ∈ ps, b ≤ q.1 → q.1 ≤ e → q.2 ≤ M) : H ps t ≤ M := by
  cases ps with
  | nil => exact h1
  | cons p r =>
    by_cases z : t < p.1
    · have e1 : H (p :: r) t = p.2 := by rw [H, if_pos z]
      have e2 : H (p :: r) b = p.2 := by rw [H, if_pos (by omega)]
      omega
    · have e1 : ∀ x, p.1 ≤ x → H (p :: r) x = G p r x := fun x hx => by rw [H, if_neg (by omega)]
      rw [e1 t (by omega)]
      rw [e1 e (by omega)] at h2
      exact G_max hbt hte r p (by omega) ha (fun z => h3 p List.mem_cons_self z (by omega)) (fun z => by rw [← e1 b z]; exact h1) h2 fun q hq => h3 q (List.mem_cons_of_mem _ hq)
theorem lp_high {d : D} {l : Fl} {ps : Sp} (h : Ti d l ps) (hp : Pts ps) {b e : Int} {a5 : Option D} {K : ES → Prop} : ∀ (xs : List Int) (best : Int) (a4 : Option D), b ≤ best → best ≤ e → (∀ best' a4, b ≤ best' → best' ≤ e → H ps best ≤ H ps best' → (∀ m ∈ xs, b ≤ m → m ≤ e → H ps m ≤ H ps best') → K (.nx, [some d, some (.int b), some (.int e), some (.int best'), a4, a5])) →
    has (evForL (tgName 4) bd_Tide__highest_2 (xs.map .int) [some d, some (.int b), some (.int e), some (.int best), a4, a5]) K
  | [], best, a4, h1, h2, hK => by
    simp! []
    exact hK _ _ h1 h2 (Int.le_refl _) fun m hm => by simp at hm
  | m :: r, best, a4, h1, h2, hK => by
    have e1 := ok_height h hp m
    have e2 := ok_height h hp best
    obtain ⟨⟨f, rfl⟩, hr, hld⟩ := id h
    simp! [List.map_cons, forL_s, bd_Tide__highest_2, hld]
    by_cases c1 : b ≤ m <;> by_cases c2 : m ≤ e <;> simp! [c1, c2, decide_true, decide_false, hld, e1, e2]
    · by_cases c3 : H ps best < H ps m
      · simp! [c3]
        refine lp_high h hp r m _ c1 c2 fun b' a4 g1 g2 g3 g4 => hK b' a4 g1 g2 (by omega) fun x hx x1 x2 => ?_
        rcases List.mem_cons.mp hx with rfl | hx
        · exact g3
        · exact g4 x hx x1 x2
      · simp! [c3]
        refine lp_high h hp r best _ h1 h2 fun b' a4 g1 g2 g3 g4 => hK b' a4 g1 g2 g3 fun x hx x1 x2 => ?_
        rcases List.mem_cons.mp hx with rfl | hx
        · omega
        · exact g4 x hx x1 x2
    all_goals
      refine lp_high h hp r best _ h1 h2 fun b' a4 g1 g2 g3 g4 => hK b' a4 g1 g2 g3 fun x hx x1 x2 => ?_
      rcases List.mem_cons.mp hx with rfl | hx
      · first | exact absurd x1 c1 | exact absurd x2 c2
      · exact g4 x hx x1 x2
theorem ok_first {d : D} {l : Fl} {ps : Sp} (h : Ti d l ps) (hp : Pts ps) {b m : Int} (hb : -1000000 ≤ b) (he : m ≤ 1000000) (hbe : b ≤ m) (hbe2 : m - b ≤ 100000) : ∃ v, b ≤ v ∧ v ≤ m ∧ H ps m ≤ H ps v ∧ (∀ t, b ≤ t → t < v → H ps t < H ps m) ∧ F__first_as_high [d, .int b, .int m] = some (.ok (.int v), [none, none, none]) := by
  have e1 := ok_above h hp (H ps m) hb he hbe (by omega)
  have e0 := ok_height h hp m
  obtain ⟨⟨c, g1⟩, g2⟩ := of_good (highM ps (H ps m) b m)
  have hin : In (ofP (highM ps (H ps m) b m)) m := (g2 m).mpr (mem_high.mpr ⟨⟨hbe, Int.le_refl _⟩, Int.le_refl _⟩)
  cases eo : ofP (highM ps (H ps m) b m) with
  | nil => rw [eo] at hin; exact (In_nil hin).elim
  | cons q r =>
    rw [eo] at g1 g2 e1
    obtain ⟨w1, w2, w3⟩ := g1
    have m1 := mem_high.mp ((g2 q.1).mp (In_cons.mpr (.inl ⟨Int.le_refl _, w2⟩)))
    refine ⟨q.1, m1.1.1, m1.1.2, m1.2, fun t t1 t2 => ?_, ?_⟩
    · rcases Int.lt_or_le (H ps t) (H ps m) with z | z
      · exact z
      · have := (g2 t).mpr (mem_high.mpr ⟨⟨t1, by omega⟩, z⟩)
        have := Good.lo (b := q.1) (xs := q :: r) ⟨Int.le_refl _, w2, w3⟩ this
        omega
    · unfold F__first_as_high
      refine fn_go rfl ?_
      show Go ev__first_as_high [some d, some (.int b), some (.int m), none, none] _
      have a0 : L2.atI ((q :: r).map pr) 0 = some (pr q) := at_in [] q r rfl
      simp only [List.map_cons, pr] at a0
      obtain ⟨⟨f, rfl⟩, hr, hld⟩ := id h
      simp! [ev__first_as_high, hld, e0, e1, pr, a0]
      first | rfl | exact ⟨rfl, rfl⟩
theorem ok_highest {d : D} {l : Fl} {ps : Sp} (h : Ti d l ps) (hp : Pts ps) {b e : Int} (hb : -1000000 ≤ b) (he : e ≤ 1000000) (hbe : b ≤ e) (hbe2 : e - b ≤ 100000) : ∃ v, b ≤ v ∧ v ≤ e ∧ (∀ t, b ≤ t → t ≤ e → H ps t ≤ H ps v) ∧ (∀ t, b ≤ t → t < v → H ps t < H ps v) ∧ F_Tide__highest [d, .int b, .int e] = some (.ok (.int v), [none, none, none]) := by
  have key : Go ev_Tide__highest [some d, some (.int b), some (.int e), none, none, none] fun o δ => ∃ v, b ≤ v ∧ v ≤ e ∧ (∀ t, b ≤ t → t ≤ e → H ps t ≤ H ps v) ∧ (∀ t, b ≤ t → t < v → H ps t < H ps v) ∧ o = .rt (.int v) := by
    have hle := hp.le
    have ho := h
    obtain ⟨⟨f, rfl⟩, hr, hld⟩ := id h
    have lk : ([D.int e].length ≤ 1000) = True := eq_true (by simp)
    simp! [ev_Tide__highest, hr.1, hr.2, itemsOf_lst hr.1, lk]
    refine has_cmpA (fun q : Int × Int => q.1) .int (fun _ => rfl) ps (by omega) (fun q _ => ?_) ?_
    · simp! [pr, ct_Tide__highest_0, ce_Tide__highest_1]
    · have e1 := add_i (ps.map fun q => q.1) [e] (by simp; omega)
      have e1' : gAdd [miD .o (ps.map fun q => q.1), .lst .o [.int e]] = some (miD .o ((ps.map fun q => q.1) ++ [e])) := e1
      simp! [e1']
      refine lp_high ho hp ((ps.map fun q => q.1) ++ [e]) b none (Int.le_refl _) hbe fun best a4 g1 g2 g3 g4 => ?_
      have hmax : ∀ t, b ≤ t → t ≤ e → H ps t ≤ H ps best := fun t t1 t2 => H_max hp.asc t1 t2 g3 (g4 e (by simp) hbe (Int.le_refl _)) fun q hq q1 q2 => by
        rw [← H_at hp.asc hq]
        exact g4 q.1 (List.mem_append_left _ (List.mem_map.mpr ⟨q, hq, rfl⟩)) q1 q2
      obtain ⟨v, v1, v2, v3, v4, v5⟩ := ok_first ho hp hb (m := best) (by omega) g1 (by omega)
      have v6 := hmax v v1 (by omega)
      simp! [hld, v5]
      exact ⟨v, v1, by omega, fun t t1 t2 => by have := hmax t t1 t2; omega, fun t t1 t2 => by have := v4 t t1 t2; omega, rfl⟩
  obtain ⟨o, δ, e1, v, v1, v2, v3, v4, rfl⟩ := key
  refine ⟨v, v1, v2, v3, v4, ?_⟩
  unfold F_Tide__highest
  exact fn_go rfl ⟨_, _, e1, rfl⟩
end
end K13
namespace K13
open PySem PD
local macro_rules | `(tactic| simp! [$xs,*]) => `(tactic| simp only [e_cst, e_nil, e_yes, e_var, e_fv, e_mv, e_cons, e_dfr, e_op, e_tup, e_lst, e_tr, e_notT, e_andT, e_orT, e_andV, e_orV, e_notV, e_opq, e_if, e_call, e_callM, e_chain, e_src, e_rng, e_lc, g_nx, g_retN, g_brk, g_cnt, g_seq, g_drop, g_ret, g_asg, g_if, g_for, g_app, g_set, kk_ok, kS_ok, kQ_nx, kQ_rt, kQ_bk, kQ_ct, kk_ex, kS_ex, kQ_ex, g_raise, e_isi, g_asgT, e_grd, g_try, g_tryAs, g_appT, e_chainN, lkQ_1, lkQ_2, noX_rt, noX_nx, noX_bk, noX_ct, hdQ_0, hdQ_s, tryQ_ex, tryQ_rt, tryQ_nx, tryQ_bk, tryQ_ct, tasQ_ex, tasQ_rt, tasQ_nx, tasQ_bk, tasQ_ct, e_attr, g_setF, g_appF, e_meth, e_methM, e_make, g_asgL, mkQ_ok, mkQ_ex, e_dnew, g_dput, g_dputF, g_ddelF, g_ddel, g_dpopS, e_keys, e_isC, has_some, sl_0, sl_s, st_0, st_s, v_add, v_sub, v_neg, v_lt, v_le, v_gt, v_ge, v_eqi, v_nei, v_is, v_isNot, v_len, v_lenT, v_abs, v_int, v_intB, v_item, v_itemT, v_list, v_max, v_min, v_repr, blD_bl, truD_bl, truD_lst, isF_int, isF_bl, isF_non, isF_tup, isF_str, isF_lf, isF_lk, isF_lo, isF_ll, at_0, at_1, at_2, at_3, at_4, at_5, ix_0, ix_1, ix_2, cap_i, cap_t, noL_i, noL_n, noL_b, noL_t, ck_0, ck_s, lk_0, lk_1, lk_2, lk_3, lk_4, ln_0, ln_1, ln_2, ln_3, ln_4, own_o, own_l, own_f, its_o, its_l, its_f, lend_o, lend_i, lend_b, lend_n, lend_s, lend_t, cap_k, cap_f, lend_l, lend_f, sh_o, sh_l, sh_f, sh_k, Bool.or_true, Bool.true_or, Bool.or_false, Bool.false_or, intD, isLst, lstO, List.set_cons_zero, List.set_cons_succ, bind_S, ty_i, ty_b, ty_s, ty_t, ty_l, ty_n, is_ii, is_ib, is_is, is_it, is_il, is_bi, is_bb, is_bs, is_bt, is_bl, is_si, is_sb, is_ss, is_st, is_sl, is_ti, is_tb, is_ts, is_tt, is_tl, is_li, is_lb, is_ls, is_lt, is_ll, is_ni, is_nb, is_ns, is_nt, is_nl, v_eqS, v_neS, v_inS, v_notInS, truD_n, truD_t, cap_o, cap_s, cap_n, cap_b, noL_s, its_t, own_t, own_s, its_s, sv_n, sv_i, sv_s, sv_b, isStr_s, isNon_n, isNon_i, isNon_s, isNon_t, isNon_l, v_tup, noL_lo, noL_lf, frz_lo, frz_lf, insOf_s, insO_s, isIns_s, lstS_o, lstS_l, lstS_f, v_rev, lend_ioo, lend_ill, lend_if, lendN_0, lendN_s, frzN_0, frzN_s, cap_ioo, cap_if, frz_ioo, isF_ioo, isF_ill, isF_if, lstO_o, lk_00, pu_00, lk_01, pu_01, lk_02, pu_02, lk_03, pu_03, lk_04, pu_04, lk_05, pu_05, lk_06, pu_06, lk_10, pu_10, lk_11, pu_11, lk_12, pu_12, lk_13, pu_13, lk_14, pu_14, lk_15, pu_15, lk_16, pu_16, lk_20, pu_20, lk_21, pu_21, lk_22, pu_22, lk_23, pu_23, lk_24, pu_24, lk_25, pu_25, lk_26, pu_26, lk_30, pu_30, lk_31, pu_31, lk_32, pu_32, lk_33, pu_33, lk_34, pu_34, lk_35, pu_35, lk_36, pu_36, lk_40, pu_40, lk_41, pu_41, lk_42, pu_42, lk_43, pu_43, lk_44, pu_44, lk_45, pu_45, lk_46, pu_46, lk_50, pu_50, lk_51, pu_51, lk_52, pu_52, lk_53, pu_53, lk_54, pu_54, lk_55, pu_55, lk_56, pu_56, lk_60, pu_60, lk_61, pu_61, lk_62, pu_62, lk_63, pu_63, lk_64, pu_64, lk_65, pu_65, lk_66, pu_66, pu_n, l3_0, l3_1, l3_2, l3_3, l3_4, l3_5, l3_6, l3_7, dcO_o, key_s, key_i, isDic_d, isF_do, isF_dl, isF_df, lend_do, lend_dl, lend_df, frz_do, frz_df, cap_do, cap_df, noL_do, noL_df, own_d, v_itemUl, v_itemUt, v_inUl, v_inUt, v_notInUl, v_notInUt, v_inUs, v_inUi, v_notInUs, v_notInUi, v_lenUd, v_lenUl, v_lenUt, v_sortedUl, noL_ioo, noL_if, noL_ill, noLN_0, noLN_s, isC_1, isC_int, dcS_o, dcS_l, dcS_f, forL_0, kL_nx, kL_ct, kL_bk, kL_rt, kL_ex, tg_n, tg_t, tg_0, tg_s, wp_0, wp_s, bk_0, bk_s, rd_0, rd_s, sb_a, sb_l, si_a, si_l, hd_0, out_t, out_f, argD, ite_self, List.map_cons, List.map_nil, List.append_nil, List.cons_append, List.nil_append, Bool.and_true, Bool.true_and, Bool.not_true, Bool.not_false, Bool.and_false, Bool.false_and, true_and, and_true, decide_eq_true_eq, Bool.false_eq_true, if_false, if_true, ite_true, ite_false, reduceIte, Bool.not_eq_true', Bool.true_eq_false, eq_self, $xs,*])
local macro_rules | `(tactic| dsimp! [$xs,*]) => `(tactic| (refine step ?_ (fun k Q hk => ?_) ?_; rotate_left; (simp only [e_cst, e_nil, e_yes, e_var, e_fv, e_mv, e_cons, e_dfr, e_op, e_tup, e_lst, e_tr, e_notT, e_andT, e_orT, e_andV, e_orV, e_notV, e_opq, e_if, e_call, e_callM, e_chain, e_src, e_rng, e_lc, g_nx, g_retN, g_brk, g_cnt, g_seq, g_drop, g_ret, g_asg, g_if, g_for, g_app, g_set, kk_ok, kS_ok, kQ_nx, kQ_rt, kQ_bk, kQ_ct, kk_ex, kS_ex, kQ_ex, g_raise, e_isi, g_asgT, e_grd, g_try, g_tryAs, g_appT, e_chainN, lkQ_1, lkQ_2, noX_rt, noX_nx, noX_bk, noX_ct, hdQ_0, hdQ_s, tryQ_ex, tryQ_rt, tryQ_nx, tryQ_bk, tryQ_ct, tasQ_ex, tasQ_rt, tasQ_nx, tasQ_bk, tasQ_ct, e_attr, g_setF, g_appF, e_meth, e_methM, e_make, g_asgL, mkQ_ok, mkQ_ex, e_dnew, g_dput, g_dputF, g_ddelF, g_ddel, g_dpopS, e_keys, e_isC, has_some, sl_0, sl_s, st_0, st_s, v_add, v_sub, v_neg, v_lt, v_le, v_gt, v_ge, v_eqi, v_nei, v_is, v_isNot, v_len, v_lenT, v_abs, v_int, v_intB, v_item, v_itemT, v_list, v_max, v_min, v_repr, blD_bl, truD_bl, truD_lst, isF_int, isF_bl, isF_non, isF_tup, isF_str, isF_lf, isF_lk, isF_lo, isF_ll, at_0, at_1, at_2, at_3, at_4, at_5, ix_0, ix_1, ix_2, cap_i, cap_t, noL_i, noL_n, noL_b, noL_t, ck_0, ck_s, lk_0, lk_1, lk_2, lk_3, lk_4, ln_0, ln_1, ln_2, ln_3, ln_4, own_o, own_l, own_f, its_o, its_l, its_f, lend_o, lend_i, lend_b, lend_n, lend_s, lend_t, cap_k, cap_f, lend_l, lend_f, sh_o, sh_l, sh_f, sh_k, Bool.or_true, Bool.true_or, Bool.or_false, Bool.false_or, intD, isLst, lstO, List.set_cons_zero, List.set_cons_succ, bind_S, ty_i, ty_b, ty_s, ty_t, ty_l, ty_n, is_ii, is_ib, is_is, is_it, is_il, is_bi, is_bb, is_bs, is_bt, is_bl, is_si, is_sb, is_ss, is_st, is_sl, is_ti, is_tb, is_ts, is_tt, is_tl, is_li, is_lb, is_ls, is_lt, is_ll, is_ni, is_nb, is_ns, is_nt, is_nl, v_eqS, v_neS, v_inS, v_notInS, truD_n, truD_t, cap_o, cap_s, cap_n, cap_b, noL_s, its_t, own_t, own_s, its_s, sv_n, sv_i, sv_s, sv_b, isStr_s, isNon_n, isNon_i, isNon_s, isNon_t, isNon_l, v_tup, noL_lo, noL_lf, frz_lo, frz_lf, insOf_s, insO_s, isIns_s, lstS_o, lstS_l, lstS_f, v_rev, lend_ioo, lend_ill, lend_if, lendN_0, lendN_s, frzN_0, frzN_s, cap_ioo, cap_if, frz_ioo, isF_ioo, isF_ill, isF_if, lstO_o, lk_00, pu_00, lk_01, pu_01, lk_02, pu_02, lk_03, pu_03, lk_04, pu_04, lk_05, pu_05, lk_06, pu_06, lk_10, pu_10, lk_11, pu_11, lk_12, pu_12, lk_13, pu_13, lk_14, pu_14, lk_15, pu_15, lk_16, pu_16, lk_20, pu_20, lk_21, pu_21, lk_22, pu_22, lk_23, pu_23, lk_24, pu_24, lk_25, pu_25, lk_26, pu_26, lk_30, pu_30, lk_31, pu_31, lk_32, pu_32, lk_33, pu_33, lk_34, pu_34, lk_35, pu_35, lk_36, pu_36, lk_40, pu_40, lk_41, pu_41, lk_42, pu_42, lk_43, pu_43, lk_44, pu_44, lk_45, pu_45, lk_46, pu_46, lk_50, pu_50, lk_51, pu_51, lk_52, pu_52, lk_53, pu_53, lk_54, pu_54, lk_55, pu_55, lk_56, pu_56, lk_60, pu_60, lk_61, pu_61, lk_62, pu_62, lk_63, pu_63, lk_64, pu_64, lk_65, pu_65, lk_66, pu_66, pu_n, l3_0, l3_1, l3_2, l3_3, l3_4, l3_5, l3_6, l3_7, dcO_o, key_s, key_i, isDic_d, isF_do, isF_dl, isF_df, lend_do, lend_dl, lend_df, frz_do, frz_df, cap_do, cap_df, noL_do, noL_df, own_d, v_itemUl, v_itemUt, v_inUl, v_inUt, v_notInUl, v_notInUt, v_inUs, v_inUi, v_notInUs, v_notInUi, v_lenUd, v_lenUl, v_lenUt, v_sortedUl, noL_ioo, noL_if, noL_ill, noLN_0, noLN_s, isC_1, isC_int, dcS_o, dcS_l, dcS_f, forL_0, kL_nx, kL_ct, kL_bk, kL_rt, kL_ex, tg_n, tg_t, tg_0, tg_s, wp_0, wp_s, bk_0, bk_s, rd_0, rd_s, sb_a, sb_l, si_a, si_l, hd_0, out_t, out_f, argD, ite_self, List.map_cons, List.map_nil, List.append_nil, List.cons_append, List.nil_append, Bool.and_true, Bool.true_and, Bool.not_true, Bool.not_false, Bool.and_false, Bool.false_and, true_and, and_true, decide_eq_true_eq, Bool.false_eq_true, if_false, if_true, ite_true, ite_false, reduceIte, Bool.not_eq_true', Bool.true_eq_false, eq_self, $xs,*]; exact hk)))
/-! drawn points -/
def Dr (q : Int × Int) : Prop := 0 ≤ q.1 ∧ q.1 ≤ 19000 ∧ 0 ≤ q.2 ∧ q.2 ≤ 43
theorem lp_points {ns : List Int} {mo far : Int} (hfar : 0 < far) (hfar2 : far ≤ 100) {K : ES → Prop} : ∀ (ks : List Int) (p : Nat) (v : Int) (acc : Sp) (mn : Int) (a5 : Option D), 0 ≤ v → acc.length + ks.length ≤ 60 → AscP acc → (∀ q ∈ acc, q.1 < mn) → (∀ q ∈ acc, Dr q) → 0 ≤ mn → mn + 100 * ks.length ≤ 19000 →
    (∀ (p' : Nat) v' ps mn a5, 0 ≤ v' → AscP ps → (∀ q ∈ ps, Dr q) → ps.length = acc.length + ks.length → K (.nx, [some (stt ns p' v'), some (.int mo), some (.int far), some (spD .o ps), some (.int mn), a5])) →
    has (evForL (tgName 5) bd__law_points_0 (ks.map .int) [some (stt ns p v), some (.int mo), some (.int far), some (spD .o acc), some (.int mn), a5]) K
  | [], p, v, acc, mn, a5, hv, hl, h1, h2, h3, h4, h5, h => by
    simp! []
    exact h p v acc mn a5 hv h1 h3 (by simp)
  | k :: ks, p, v, acc, mn, a5, hv, hl, h1, h2, h3, h4, h5, h => by
    simp only [List.length_cons] at hl h5 h
    have hl2 : (acc.map pr).length < 1000000 := by rw [List.length_map]; omega
    obtain ⟨r, p1, v1, r1, r2, r3, er⟩ := take_ok ns p v 7 hv (by omega) (by omega)
    obtain ⟨s, p2, v2, s1, s2, s3, es⟩ := take_ok ns p1 v1 4 r3 (by omega) (by omega)
    obtain ⟨t, p3, v3, t1, t2, t3, et⟩ := take_ok ns p2 v2 far s3 (by omega) (by omega)
    obtain ⟨z, hz, ez⟩ : ∃ w : Int, (0 ≤ w ∧ w ≤ 40) ∧ L2.atI [D.int 0, .int 3, .int 5, .int 9, .int 12, .int 40, .int 7] r = some (.int w) := by
      obtain ⟨d, hm, e⟩ := at_mem [D.int 0, .int 3, .int 5, .int 9, .int 12, .int 40, .int 7] r r1 (by simpa using r2)
      simp at hm
      rcases hm with rfl | rfl | rfl | rfl | rfl | rfl | rfl <;> exact ⟨_, by decide, e⟩
    have lk7 : ([D.int 0, .int 3, .int 5, .int 9, .int 12, .int 40, .int 7].length ≤ 1000) = True := eq_true (by simp)
    rw [List.map_cons, forL_s]
    simp! []
    unfold bd__law_points_0
    refine step [some (stt ns p2 v2), some (.int mo), some (.int far), some (spD .o (acc ++ [(mn, z + s)])), some (.int mn), some (.int k)] (fun kk Q hk => ?_) ?_
    · simp! [er, es, ez, lk7]
      refine ⟨hl2, ?_⟩
      rw [snoc]
      exact hk
    refine step [some (stt ns p3 v3), some (.int mo), some (.int far), some (spD .o (acc ++ [(mn, z + s)])), some (.int (mn + 1 + t)), some (.int k)] (fun kk Q hk => ?_) ?_
    · simp! [et]
      exact hk
    simp! []
    refine lp_points hfar hfar2 ks p3 v3 _ _ _ t3 (by simp; omega) ?_ ?_ ?_ (by omega) (by omega) ?_
    · refine List.pairwise_append.mpr ⟨h1, List.pairwise_singleton _ _, fun x hx y hy => ?_⟩
      rw [List.mem_singleton.mp hy]
      exact h2 x hx
    · intro q hq
      rcases List.mem_append.mp hq with y | y
      · have := h2 q y; omega
      · rw [List.mem_singleton.mp y]; simp only; omega
    · intro q hq
      rcases List.mem_append.mp hq with y | y
      · exact h3 q y
      · rw [List.mem_singleton.mp y]; exact ⟨h4, by simp only; omega, by simp only; omega, by simp only; omega⟩
    · intro p' v' ps mn' a5' q1 q2 q3 q4
      exact h p' v' ps mn' a5' q1 q2 q3 (by rw [q4]; simp; omega)
theorem ok_drawn (ns : List Int) (p : Nat) (v : Int) (hv : 0 ≤ v) {mo far : Int} (hmo : 0 < mo) (hmo2 : mo ≤ 50) (hfar : 0 < far) (hfar2 : far ≤ 100) : ∃ (ps : Sp) (p' : Nat) (v' : Int), 0 ≤ v' ∧ Pts ps ∧ (∀ q ∈ ps, Dr q) ∧ F__law_points [stt ns p v, .int mo, .int far] = some (.ok (spD .o ps), [some (stt ns p' v'), none, none]) := by
  have key : Go ev__law_points [some (stt ns p v), some (.int mo), some (.int far), none, none, none] fun o δ => ∃ (ps : Sp) (p' : Nat) (v' : Int), 0 ≤ v' ∧ Pts ps ∧ (∀ q ∈ ps, Dr q) ∧ o = .rt (spD .o ps) ∧ hd0 δ = some (stt ns p' v') := by
    obtain ⟨m, p1, v1, m1, m2, m3, em⟩ := take_ok ns p v 5 hv (by omega) (by omega)
    obtain ⟨c, p2, v2, c1, c2, c3, ec⟩ := take_ok ns p1 v1 mo m3 (by omega) (by omega)
    unfold ev__law_points
    refine step [some (stt ns p v), some (.int mo), some (.int far), some (spD .o []), none, none] (fun k Q hk => ?_) ?_
    · simp! []
      exact hk
    refine step [some (stt ns p1 v1), some (.int mo), some (.int far), some (spD .o []), some (.int m), none] (fun k Q hk => ?_) ?_
    · simp! [em]
      exact hk
    rw [g_seq]
    have er := rng1_i (1 + c) ⟨by omega, by omega⟩
    simp! [ec, er]
    refine lp_points hfar hfar2 (mins 0 (1 + c).toNat) p2 v2 [] m none c3 (by rw [mins_len]; simp; omega) List.Pairwise.nil (fun q hq => by simp at hq) (fun q hq => by simp at hq) m1 (by rw [mins_len]; omega) fun p' v' ps mn a5 q1 q2 q3 q4 => ?_
    rw [mins_len] at q4
    simp only [List.length_nil, Nat.zero_add] at q4
    simp! []
    refine ⟨ps, p', v', q1, ⟨fun e => ?_, by omega, q2, fun q hq => ?_⟩, q3, rfl, rfl⟩
    · rw [e] at q4; simp at q4; omega
    · have := q3 q hq
      unfold Dr at this; unfold Pt; omega
  obtain ⟨o, δ, e1, ps, p', v', q1, q2, q3, rfl, e2⟩ := key
  refine ⟨ps, p', v', q1, q2, q3, ?_⟩
  unfold F__law_points
  refine fn_go rfl ⟨_, _, e1, ?_⟩
  simp only [outD, e2]
  rfl
/-! heights are within those of the points -/
theorem btw_rng {p q : Int × Int} {t lo hi : Int} (hpq : p.1 < q.1) (h1 : p.1 ≤ t) (h2 : t ≤ q.1) (hp : lo ≤ p.2 ∧ p.2 ≤ hi) (hq : lo ≤ q.2 ∧ q.2 ≤ hi) : lo ≤ btw p q t ∧ btw p q t ≤ hi := by
  have b0 : btw p q p.1 = p.2 := by unfold btw; rw [Int.sub_self, Int.mul_zero, Int.zero_ediv, Int.add_zero]
  have b1 : btw p q q.1 = q.2 := by
    unfold btw
    rw [Int.mul_ediv_cancel _ (by omega)]; omega
  rcases Int.le_total p.2 q.2 with h | h
  · have := btw_up hpq h h1
    have := btw_up hpq h h2
    omega
  · have := btw_down hpq h h1
    have := btw_down hpq h h2
    omega
theorem G_rng {t lo hi : Int} : ∀ (xs : Sp) (p : Int × Int), p.1 ≤ t → (∀ q ∈ p :: xs, lo ≤ q.2 ∧ q.2 ≤ hi) → lo ≤ G p xs t ∧ G p xs t ≤ hi
  | [], p, _, h => h p List.mem_cons_self
  | q :: r, p, ht, h => by
    rw [G]
    by_cases hq : t < q.1
    · rw [if_pos hq]
      exact btw_rng (by omega) ht (by omega) (h p List.mem_cons_self) (h q (by simp))
    · rw [if_neg hq]
      exact G_rng r q (by omega) fun s hs => h s (List.mem_cons_of_mem _ hs)
theorem H_rng {ps : Sp} (hp : Pts ps) (hd : ∀ q ∈ ps, Dr q) (t : Int) : 0 ≤ H ps t ∧ H ps t ≤ 43 := by
  cases ps with
  | nil => exact absurd rfl hp.ne
  | cons p r =>
    have hb : ∀ q ∈ p :: r, 0 ≤ q.2 ∧ q.2 ≤ 43 := fun q hq => (hd q hq).2.2
    rw [H]
    by_cases h : t < p.1
    · rw [if_pos h]; exact hb p List.mem_cons_self
    · rw [if_neg h]; exact G_rng r p (by omega) hb
theorem cnt_eq (p q : Int → Bool) : ∀ xs : List Int, (xs.filter fun t => p t && q t).length + (xs.filter fun t => !p t && !q t).length = (xs.filter fun t => p t == q t).length
  | [] => rfl
  | x :: r => by
    have ih := cnt_eq p q r
    cases hp : p x <;> cases hq : q x <;> simp only [List.filter_cons, hp, hq, Bool.and_true, Bool.and_false, Bool.not_true, Bool.not_false, beq_self_eq_true, if_true, if_false, Bool.false_eq_true, List.length_cons, Bool.true_and, Bool.false_and, (by decide : (false == true) = false), (by decide : (true == false) = false)] <;> omega
def sameM (ps qs : Sp) (lv b e : Int) : List Int := (mins b (e + 1 - b).toNat).filter fun t => decide (lv ≤ H ps t) == decide (lv ≤ H qs t)
theorem ok_agree {d1 d2 : D} {l1 l2 : Fl} {ps qs : Sp} (h1 : Ti d1 l1 ps) (h2 : Ti d2 l2 qs) (hp : Pts ps) (hq : Pts qs) (lv : Int) {b e : Int} (hb : -1000000 ≤ b) (he : e ≤ 1000000) (hbe : b ≤ e) (hbe2 : e - b ≤ 200) : F_agreement [d1, d2, .int lv, .int b, .int e] = some (.ok (.int (sameM ps qs lv b e).length), [none, none, none, none, none]) := by
  have a1 := ok_above h1 hp lv hb he hbe (by omega)
  have a2 := ok_above h2 hq lv hb he hbe (by omega)
  have l1 := ofP_len (highM ps lv b e)
  have l2 := high_len ps lv b e
  have l3 := ofP_len (highM qs lv b e)
  have l4 := high_len qs lv b e
  have hlow : ∀ xs : Sp, ∀ t, (b ≤ t ∧ t ≤ e) ∧ ¬ t ∈ highM xs lv b e ↔ t ∈ (mins b (e + 1 - b).toNat).filter fun t => !decide (lv ≤ H xs t) := fun xs t => by
    rw [mem_high, List.mem_filter, mem_mins, Bool.not_eq_true', decide_eq_false_iff_not]
    constructor
    · rintro ⟨z1, z2⟩; exact ⟨by omega, fun y => z2 ⟨z1, y⟩⟩
    · rintro ⟨z1, z2⟩; exact ⟨by omega, fun y => z2 y.2⟩
  have t1 := turn_of (hlow ps)
  have t2 := turn_of (hlow qs)
  have n1 := turnP_len (ofP (highM ps lv b e)) b e
  have n2 := turnP_len (ofP (highM qs lv b e)) b e
  have m1 : meetP (ofP (highM ps lv b e)) (ofP (highM qs lv b e)) = ofP ((mins b (e + 1 - b).toNat).filter fun t => decide (lv ≤ H ps t) && decide (lv ≤ H qs t)) := meet_of fun t => by
    rw [mem_high, mem_high, List.mem_filter, mem_mins, Bool.and_eq_true, decide_eq_true_eq, decide_eq_true_eq]
    constructor
    · rintro ⟨z1, z2⟩; exact ⟨by omega, z1.2, z2.2⟩
    · rintro ⟨z1, z2⟩; exact ⟨⟨by omega, z2.1⟩, by omega, z2.2⟩
  have m2 : meetP (turnP (ofP (highM ps lv b e)) b e) (turnP (ofP (highM qs lv b e)) b e) = ofP ((mins b (e + 1 - b).toNat).filter fun t => !decide (lv ≤ H ps t) && !decide (lv ≤ H qs t)) := by
    rw [t1, t2]
    refine meet_of fun t => ?_
    rw [List.mem_filter, List.mem_filter, List.mem_filter, mem_mins, Bool.and_eq_true]
    exact ⟨fun z => ⟨z.1.1, z.1.2, z.2.2⟩, fun z => ⟨⟨z.1, z.2.1⟩, z.1, z.2.2⟩⟩
  have f1 := List.length_filter_le (fun t => decide (lv ≤ H ps t) && decide (lv ≤ H qs t)) (mins b (e + 1 - b).toNat)
  have f2 := List.length_filter_le (fun t => !decide (lv ≤ H ps t) && !decide (lv ≤ H qs t)) (mins b (e + 1 - b).toNat)
  rw [mins_len] at f1 f2
  have g1 := ofP_len ((mins b (e + 1 - b).toNat).filter fun t => decide (lv ≤ H ps t) && decide (lv ≤ H qs t))
  have g2 := ofP_len ((mins b (e + 1 - b).toNat).filter fun t => !decide (lv ≤ H ps t) && !decide (lv ≤ H qs t))
  have bnd : ∀ x y : Sp, x.length ≤ 300 → y.length ≤ 300 → x.length * y.length ≤ 900000 := fun x y hx hy => by
    have := Nat.mul_le_mul hx hy
    omega
  have k1 := ok_meet RO.l RO.l (ofP (highM ps lv b e)) (ofP (highM qs lv b e)) (bnd _ _ (by omega) (by omega))
  have k2 := ok_turned RO.l (ofP (highM ps lv b e)) b e (by omega)
  have k3 := ok_turned RO.l (ofP (highM qs lv b e)) b e (by omega)
  have k4 := ok_meet RO.f RO.f (turnP (ofP (highM ps lv b e)) b e) (turnP (ofP (highM qs lv b e)) b e) (bnd _ _ (by omega) (by omega))
  rw [m1] at k1
  rw [m2] at k4
  have k5 := ok_length RO.f _ (show (ofP ((mins b (e + 1 - b).toNat).filter fun t => decide (lv ≤ H ps t) && decide (lv ≤ H qs t))).length ≤ 1000 by omega)
  have k6 := ok_length RO.f _ (show (ofP ((mins b (e + 1 - b).toNat).filter fun t => !decide (lv ≤ H ps t) && !decide (lv ≤ H qs t))).length ≤ 1000 by omega)
  rw [len_of ((mins_asc _ _).filter _)] at k5 k6
  have c := cnt_eq (fun t => decide (lv ≤ H ps t)) (fun t => decide (lv ≤ H qs t)) (mins b (e + 1 - b).toNat)
  have hs : (sameM ps qs lv b e).length = ((mins b (e + 1 - b).toNat).filter fun t => decide (lv ≤ H ps t) && decide (lv ≤ H qs t)).length + ((mins b (e + 1 - b).toNat).filter fun t => !decide (lv ≤ H ps t) && !decide (lv ≤ H qs t)).length := by
    rw [c]; rfl
  rw [hs, Int.natCast_add]
  unfold F_agreement
  refine fn_go rfl ?_
  show Go ev_agreement [some d1, some d2, some (.int lv), some (.int b), some (.int e), none, none, none, none] _
  obtain ⟨⟨f1, rfl⟩, hr1, hld1⟩ := id h1
  obtain ⟨⟨f2, rfl⟩, hr2, hld2⟩ := id h2
  unfold ev_agreement
  dsimp! [hld1, a1]
  dsimp! [hld2, a2]
  dsimp! [k1, k5]
  dsimp! [k2, k3, k4, k6]
  simp! []
  first | rfl | exact ⟨rfl, rfl⟩
/-! moved, == -/
theorem hm13 {ps : Sp} (hp : Pts ps) (hd : ∀ q ∈ ps, Dr q) : Pts (ps.map fun q => (q.1 + 7, q.2 + 2)) := by
  refine ⟨fun e => hp.ne (List.map_eq_nil_iff.mp e), by rw [List.length_map]; exact hp.le, ?_, fun q hq => ?_⟩
  · have := hp.asc
    unfold AscP at *
    rw [List.pairwise_map]
    exact this.imp fun h => by omega
  · obtain ⟨p, hq2, rfl⟩ := List.mem_map.mp hq
    have := hd p hq2
    unfold Dr at this; unfold Pt; omega
theorem btw_mv (p q : Int × Int) (t : Int) : btw (p.1 + 7, p.2 + 2) (q.1 + 7, q.2 + 2) (t + 7) = btw p q t + 2 := by
  unfold btw
  simp only
  rw [show q.2 + 2 - (p.2 + 2) = q.2 - p.2 by omega, show t + 7 - (p.1 + 7) = t - p.1 by omega, show q.1 + 7 - (p.1 + 7) = q.1 - p.1 by omega]
  omega
theorem G_mv (t : Int) : ∀ (xs : Sp) (p : Int × Int), G (p.1 + 7, p.2 + 2) (xs.map fun q => (q.1 + 7, q.2 + 2)) (t + 7) = G p xs t + 2
  | [], p => rfl
  | q :: r, p => by
    rw [List.map_cons, G, G]
    by_cases h : t < q.1
    · rw [if_pos h, if_pos (by simp only; omega), btw_mv]
    · rw [if_neg h, if_neg (by simp only; omega), G_mv t r q]
theorem H_mv {ps : Sp} (hn : ps ≠ []) (t : Int) : H (ps.map fun q => (q.1 + 7, q.2 + 2)) (t + 7) = H ps t + 2 := by
  cases ps with
  | nil => exact absurd rfl hn
  | cons p r =>
    rw [List.map_cons, H, H]
    by_cases h : t < p.1
    · rw [if_pos h, if_pos (by simp only; omega)]
    · rw [if_neg h, if_neg (by simp only; omega), G_mv t r p]
theorem ok_moved {d : D} {l : Fl} {ps : Sp} (h : Ti d l ps) (hp : Pts ps) (hd : ∀ q ∈ ps, Dr q) : F_moved [d, .int 7, .int 2] = some (.ok (tiD .oo .o (ps.map fun q => (q.1 + 7, q.2 + 2))), [none, none, none]) := by
  have hm := hm13 hp hd
  have hle := hp.le
  have e1 := ok_points h
  have e2 := ok_tinit RO.f hm
  obtain ⟨⟨f1, rfl⟩, hr1, hld1⟩ := id h
  unfold F_moved
  refine fn_go rfl ?_
  show Go ev_moved [some (tiD f1 l ps), some (.int 7), some (.int 2), none, none] _
  simp! [ev_moved, hld1, e1]
  refine has_cmpA (fun q : Int × Int => (q.1 + 7, q.2 + 2)) pr (fun _ => rfl) ps (by omega) (fun q _ => ?_) ?_
  · simp! [pr, ct_moved_0, ce_moved_1]
  · simp! [e2]
    first | rfl | exact ⟨rfl, rfl⟩
theorem ok_teq {d1 d2 : D} {l1 l2 : Fl} {ps qs : Sp} (h1 : Ti d1 l1 ps) (h2 : Ti d2 l2 qs) : F_Tide____eq__ [d1, d2] = some (.ok (.bl (decide (ps = qs))), [none, none]) := by
  have e1 := ok_points h1
  have e2 := ok_points h2
  have e3 := eq_p (m := .o) (n := .o) ps qs
  have e3' := eq_p (m := .f) (n := .o) ps qs
  obtain ⟨⟨f1, rfl⟩, hr1, hld1⟩ := id h1
  obtain ⟨⟨f2, rfl⟩, hr2, hld2⟩ := id h2
  unfold F_Tide____eq__
  refine fn_go rfl ?_
  show Go ev_Tide____eq__ [some (tiD f1 l1 ps), some (tiD f2 l2 qs)] _
  simp! [ev_Tide____eq__, hld1, hld2, e1, e2, e3, e3']
  first | rfl | exact ⟨rfl, rfl⟩
theorem ok_teq5 {d1 : D} {l1 : Fl} {ps : Sp} (h1 : Ti d1 l1 ps) (n : Int) : F_Tide____eq__ [d1, .int n] = some (.ok (.bl false), [none, none]) := by
  obtain ⟨⟨f1, rfl⟩, hr1, hld1⟩ := id h1
  unfold F_Tide____eq__
  refine fn_go rfl ?_
  show Go ev_Tide____eq__ [some (tiD f1 l1 ps), some (.int n)] _
  simp! [ev_Tide____eq__]
  first | rfl | exact ⟨rfl, rfl⟩
theorem eqI_t (ps qs : Sp) : gEqI 3 F_Tide____eq__ [tiD .oo .o ps, tiD .oo .o qs] = some (.bl (decide (ps = qs))) := by
  have e := ok_teq (Ti.l (ps := ps)) (Ti.l (ps := qs))
  show (match F_Tide____eq__ [tiD .ll .l ps, tiD .ll .l qs] with | some (.ok (.bl r), _) => some (D.bl r) | _ => none) = _
  rw [e]
theorem eqI_5 (ps : Sp) (n : Int) : gEqI 3 F_Tide____eq__ [tiD .oo .o ps, .int n] = some (.bl false) := by
  have e := ok_teq5 (Ti.l (ps := ps)) n
  show (match F_Tide____eq__ [tiD .ll .l ps, .int n] with | some (.ok (.bl r), _) => some (D.bl r) | _ => none) = _
  rw [e]
end K13
namespace K13
open PySem PD
theorem foldl_max (xs : List Int) : ∀ a : Int, xs.foldl max a ∈ a :: xs ∧ ∀ y ∈ a :: xs, y ≤ xs.foldl max a := by
  induction xs with
  | nil => intro a; simp
  | cons x r ih =>
    intro a
    rw [List.foldl_cons]
    obtain ⟨h1, h2⟩ := ih (max a x)
    have hm := h2 (max a x) List.mem_cons_self
    refine ⟨?_, fun y hy => ?_⟩
    · rcases List.mem_cons.mp h1 with h | h
      · rw [h]
        rcases Int.le_total a x with z | z
        · rw [Int.max_eq_right z]; simp
        · rw [Int.max_eq_left z]; simp
      · simp [h]
    · rcases List.mem_cons.mp hy with rfl | hy
      · omega
      · rcases List.mem_cons.mp hy with rfl | hy
        · omega
        · exact h2 y (List.mem_cons_of_mem _ hy)
theorem add_g {α : Type} (f : α → D) (xs ys : List α) (h : xs.length + ys.length ≤ 1000) : gAdd [.lst .o (xs.map f), .lst .o (ys.map f)] = some (.lst .o ((xs ++ ys).map f)) := by
  show (if (shal .o && shal .o && Fl.o != .k && Fl.o != .k && decide ((xs.map f).length + (ys.map f).length ≤ sizeLine)) = true then some (D.lst .o (xs.map f ++ ys.map f)) else none) = _
  rw [if_pos, List.map_append]
  have : decide ((xs.map f).length + (ys.map f).length ≤ sizeLine) = true := by
    rw [decide_eq_true_eq, List.length_map, List.length_map, sizeLine_eq]; omega
  rw [this]; rfl
theorem key_uniq {α : Type} (key : α → Int) : ∀ {xs ys : List α}, xs.Pairwise (fun a b => key a < key b) → ys.Pairwise (fun a b => key a < key b) → (∀ t, t ∈ xs ↔ t ∈ ys) → xs = ys
  | [], [], _, _, _ => rfl
  | [], y :: ys, _, _, h => by have := (h y).mpr List.mem_cons_self; simp at this
  | x :: xs, [], _, _, h => by have := (h x).mp List.mem_cons_self; simp at this
  | x :: xs, y :: ys, hx, hy, h => by
    have hx' := List.pairwise_cons.mp hx
    have hy' := List.pairwise_cons.mp hy
    have e : x = y := by
      have a := (h x).mp List.mem_cons_self
      have b := (h y).mpr List.mem_cons_self
      rcases List.mem_cons.mp a with a | a
      · exact a
      · rcases List.mem_cons.mp b with b | b
        · exact b.symm
        · have := hy'.1 x a; have := hx'.1 y b; omega
    subst e
    have := key_uniq key hx'.2 hy'.2 fun t => by
      constructor
      · intro z
        rcases List.mem_cons.mp ((h t).mp (List.mem_cons_of_mem _ z)) with y | y
        · have := hx'.1 t z; subst y; omega
        · exact y
      · intro z
        rcases List.mem_cons.mp ((h t).mpr (List.mem_cons_of_mem _ z)) with y | y
        · have := hy'.1 t z; subst y; omega
        · exact y
    rw [this]
theorem sort_uniq {α : Type} (le : α → α → Bool) (tr : ∀ a b c, le a b = true → le b c = true → le a c = true) (to : ∀ a b, (le a b || le b a) = true) (key : α → Int) (hkey : ∀ a b, le a b = true → key a ≤ key b) {xs ys : List α} (hp : xs.Perm ys) (hs : ys.Pairwise fun a b => key a < key b) : xs.mergeSort le = ys := by
  have p1 : (xs.mergeSort le).Perm ys := (List.mergeSort_perm _ _).trans hp
  have h1 : (xs.mergeSort le).Pairwise fun a b => key a ≤ key b := (List.pairwise_mergeSort tr to xs).imp fun h => hkey _ _ h
  have h2 : (xs.mergeSort le).Pairwise fun a b => key a ≠ key b := by
    have n1 : (ys.map key).Nodup := by
      unfold List.Nodup
      rw [List.pairwise_map]
      exact hs.imp fun h => by omega
    have n2 := (p1.map key).nodup_iff.mpr n1
    unfold List.Nodup at n2
    rwa [List.pairwise_map] at n2
  exact key_uniq key ((h1.and h2).imp fun ⟨a, b⟩ => by omega) hs fun t => p1.mem_iff
/-! turns, in order -/
def leB (a b : Int × Bool) : Bool := decide (a.1 < b.1 ∨ (a.1 = b.1 ∧ (a.2 = false ∨ b.2 = true)))
theorem leD_pb (a b : Int × Bool) : leD (pb a) (pb b) = leB a b := by
  obtain ⟨a1, a2⟩ := a
  obtain ⟨b1, b2⟩ := b
  unfold leD W.dataLe W.sortLe leB
  rw [Bool.eq_iff_iff]
  cases a2 <;> cases b2
  · show (!PyProof.Rows.lexLt PyProof.Rows.itemOrd [.inl 1, .inl b1, .inl 1, .inl 0, .inl 0] [.inl 1, .inl a1, .inl 1, .inl 0, .inl 0]) = true ↔ _
    simp [PyProof.Rows.lexLt, PyProof.Rows.itemLt]; omega
  · show (!PyProof.Rows.lexLt PyProof.Rows.itemOrd [.inl 1, .inl b1, .inl 1, .inl 1, .inl 0] [.inl 1, .inl a1, .inl 1, .inl 0, .inl 0]) = true ↔ _
    simp [PyProof.Rows.lexLt, PyProof.Rows.itemLt]; omega
  · show (!PyProof.Rows.lexLt PyProof.Rows.itemOrd [.inl 1, .inl b1, .inl 1, .inl 0, .inl 0] [.inl 1, .inl a1, .inl 1, .inl 1, .inl 0]) = true ↔ _
    simp [PyProof.Rows.lexLt, PyProof.Rows.itemLt]; omega
  · show (!PyProof.Rows.lexLt PyProof.Rows.itemOrd [.inl 1, .inl b1, .inl 1, .inl 1, .inl 0] [.inl 1, .inl a1, .inl 1, .inl 1, .inl 0]) = true ↔ _
    simp [PyProof.Rows.lexLt, PyProof.Rows.itemLt]; omega
theorem eqD_pb (a b : Int × Bool) : eqD (pb a) (pb b) = decide (a = b) := by
  obtain ⟨a1, a2⟩ := a
  obtain ⟨b1, b2⟩ := b
  unfold eqD pb
  rw [Bool.eq_iff_iff]
  cases a2 <;> cases b2 <;> simp [toP, toPL, PyData.eqv, PyData.eqvAll, Prod.ext_iff]
theorem dp_pb (n : Nat) (q : Int × Bool) : dp (n + 1) (pb q) = true := by simp [pb, dp, dpL]
theorem sorted_pb {m : Fl} (hm : shal m = true) (xs : List (Int × Bool)) (hl : xs.length ≤ 1000000) : gSorted [.lst m (xs.map pb)] = some (.lst .o ((xs.mergeSort leB).map pb)) :=
  v_sorted hm hl leD_pb (fun a => dp_pb 59 a) (fun a b => by simp [pb, toP, toPL, W.alike, W.alikeAll]) (.inl fun a => by simp [pb, toP, toPL, tup1])
theorem ne_pb {m n : Fl} (xs : List (Int × Bool)) : gNe [.lst m (xs.map pb), .lst n (xs.map pb)] = some (.bl false) := (v_neL (f := pb) eqD_pb (dp_pb 58)).trans (by simp)
def dueA (b : Int) (X : Sp) : List (Int × Bool) := (X.filter fun q => decide (b < q.1)).map fun q => (q.1, true)
def dueB (e : Int) (X : Sp) : List (Int × Bool) := (X.filter fun q => decide (q.2 < e)).map fun q => (q.2 + 1, false)
theorem due_perm (b e : Int) : ∀ X : Sp, (dueA b X ++ dueB e X).Perm (trnL b e X)
  | [] => List.Perm.refl _
  | q :: r => by
    have ih := due_perm b e r
    have e1 : dueA b (q :: r) = (if b < q.1 then [(q.1, true)] else []) ++ dueA b r := by
      unfold dueA
      rw [List.filter_cons]
      by_cases h : b < q.1 <;> simp [h]
    have e2 : dueB e (q :: r) = (if q.2 < e then [(q.2 + 1, false)] else []) ++ dueB e r := by
      unfold dueB
      rw [List.filter_cons]
      by_cases h : q.2 < e <;> simp [h]
    rw [e1, e2, trnL, trn, List.append_assoc, List.append_assoc]
    refine List.Perm.append_left _ ?_
    refine List.Perm.trans (List.perm_append_comm_assoc _ _ _) ?_
    exact List.Perm.append_left _ ih
theorem trnL_asc (b e : Int) : ∀ {c : Int} {X : Sp}, Good c X → (trnL b e X).Pairwise (fun x y => x.1 < y.1) ∧ ∀ x ∈ trnL b e X, c ≤ x.1
  | c, [], _ => ⟨List.Pairwise.nil, fun x hx => by simp [trnL] at hx⟩
  | c, q :: r, ⟨h1, h2, h3⟩ => by
    obtain ⟨g1, g2⟩ := trnL_asc b e h3
    have ht : (trn b e q).Pairwise (fun x y => x.1 < y.1) ∧ ∀ x ∈ trn b e q, q.1 ≤ x.1 ∧ x.1 ≤ q.2 + 1 := by
      unfold trn
      by_cases c1 : b < q.1 <;> by_cases c2 : q.2 < e <;> simp [c1, c2] <;> omega
    rw [trnL]
    refine ⟨List.pairwise_append.mpr ⟨ht.1, g1, fun x hx y hy => ?_⟩, fun x hx => ?_⟩
    · have := (ht.2 x hx).2; have := g2 y hy; omega
    · rcases List.mem_append.mp hx with z | z
      · have := (ht.2 x z).1; omega
      · have := g2 x z; omega
theorem due_sorted {ms : List Int} (b e : Int) : (dueA b (ofP ms) ++ dueB e (ofP ms)).mergeSort leB = trnL b e (ofP ms) := by
  obtain ⟨⟨c, g1⟩, g2⟩ := of_good ms
  exact sort_uniq leB (fun a b c h1 h2 => by
    unfold leB at *
    rw [decide_eq_true_eq] at *
    obtain ⟨a1, a2⟩ := a; obtain ⟨b1, b2⟩ := b; obtain ⟨c1, c2⟩ := c
    simp only at *
    cases a2 <;> cases b2 <;> cases c2 <;> simp at * <;> omega) (fun a b => by
    unfold leB
    rw [Bool.or_eq_true, decide_eq_true_eq, decide_eq_true_eq]
    obtain ⟨a1, a2⟩ := a; obtain ⟨b1, b2⟩ := b
    simp only
    cases a2 <;> cases b2 <;> simp <;> omega) (fun x => x.1) (fun a b h => by
    unfold leB at h
    rw [decide_eq_true_eq] at h
    omega) (due_perm b e _) (trnL_asc b e g1).1
theorem dueA_len (b : Int) (X : Sp) : (dueA b X).length ≤ X.length := by unfold dueA; rw [List.length_map]; exact List.length_filter_le _ _
theorem dueB_len (b : Int) (X : Sp) : (dueB b X).length ≤ X.length := by unfold dueB; rw [List.length_map]; exact List.length_filter_le _ _
/-! the first of the greatest -/
theorem keysOf_i (xs : List Int) : keysOf (xs.map D.int) = some (xs.map Sum.inl) := by
  induction xs with
  | nil => rfl
  | cons x r ih => rw [List.map_cons, keysOf, ih]; rfl
theorem index_i {m : Fl} {xs : List Int} {y : Int} {k : Nat} (hk : k < xs.length) (h1 : xs[k] = y) (h2 : ∀ (j : Nat) (hj : j < k), xs[j] ≠ y) : gIndex [miD m xs, .int y] = some (.int k) := by
  show ((keysOf (xs.map D.int)).bind fun ks => (keyOf (.int y)).bind fun k => (ks.findIdx? fun z => decide (z = k)).map fun j => D.int (j : Nat)) = _
  rw [keysOf_i]
  show ((xs.map Sum.inl).findIdx? fun z : Int ⊕ Str => decide (z = .inl y)).map (fun j => D.int (j : Nat)) = _
  have : ((xs.map Sum.inl).findIdx? fun z : Int ⊕ Str => decide (z = .inl y)) = some k := by
    rw [List.findIdx?_eq_some_iff_getElem]
    refine ⟨by simpa using hk, by simp [h1], fun j hj => ?_⟩
    have := h2 j hj
    simpa using this
  rw [this]; rfl
theorem heights_max {ps : Sp} {b e v : Int} (v1 : b ≤ v) (v2 : v ≤ e) (v3 : ∀ t, b ≤ t → t ≤ e → H ps t ≤ H ps v) : gMax1 [miD .o ((mins b (e + 1 - b).toNat).map (H ps))] = some (.int (H ps v)) := by
  obtain ⟨n, hn⟩ : ∃ n, (e + 1 - b).toNat = n + 1 := ⟨(e - b).toNat, by omega⟩
  have hmem : ∀ y, y ∈ (mins b (n + 1)).map (H ps) → y ≤ H ps v := fun y hy => by
    obtain ⟨t, ht, rfl⟩ := List.mem_map.mp hy
    have := mem_mins.mp ht
    exact v3 t (by omega) (by omega)
  have hv : H ps v ∈ (mins b (n + 1)).map (H ps) := List.mem_map.mpr ⟨v, mem_mins.mpr (by omega), rfl⟩
  rw [hn]
  rw [mins_s, List.map_cons] at hmem hv ⊢
  have := v_max1 (m := .o) rfl (H ps b) ((mins (b + 1) n).map (H ps))
  rw [this]
  obtain ⟨h1, h2⟩ := foldl_max ((mins (b + 1) n).map (H ps)) (H ps b)
  have a1 := hmem _ h1
  have a2 := h2 _ hv
  rw [show (List.map (H ps) (mins (b + 1) n)).foldl max (H ps b) = H ps v from by omega]
theorem heights_index {ps : Sp} {b e v : Int} (v1 : b ≤ v) (v2 : v ≤ e) (v4 : ∀ t, b ≤ t → t < v → H ps t < H ps v) : gIndex [miD .o ((mins b (e + 1 - b).toNat).map (H ps)), .int (H ps v)] = some (.int (v - b)) := by
  have hl : (v - b).toNat < ((mins b (e + 1 - b).toNat).map (H ps)).length := by rw [List.length_map, mins_len]; omega
  have hg : ∀ (j : Nat) (hj : j < ((mins b (e + 1 - b).toNat).map (H ps)).length), ((mins b (e + 1 - b).toNat).map (H ps))[j] = H ps (b + j) := fun j hj => by
    unfold mins
    simp
  have := index_i (m := .o) hl (y := H ps v) (by rw [hg]; congr 1; omega) fun j hj => by
    rw [hg]
    have := v4 (b + j) (by omega) (by omega)
    omega
  rw [this]
  congr 2
  omega
end K13
namespace K13
open PySem PD
local macro_rules | `(tactic| simp! [$xs,*]) => `(tactic| simp only [e_cst, e_nil, e_yes, e_var, e_fv, e_mv, e_cons, e_dfr, e_op, e_tup, e_lst, e_tr, e_notT, e_andT, e_orT, e_andV, e_orV, e_notV, e_opq, e_if, e_call, e_callM, e_chain, e_src, e_rng, e_lc, g_nx, g_retN, g_brk, g_cnt, g_seq, g_drop, g_ret, g_asg, g_if, g_for, g_app, g_set, kk_ok, kS_ok, kQ_nx, kQ_rt, kQ_bk, kQ_ct, kk_ex, kS_ex, kQ_ex, g_raise, e_isi, g_asgT, e_grd, g_try, g_tryAs, g_appT, e_chainN, lkQ_1, lkQ_2, noX_rt, noX_nx, noX_bk, noX_ct, hdQ_0, hdQ_s, tryQ_ex, tryQ_rt, tryQ_nx, tryQ_bk, tryQ_ct, tasQ_ex, tasQ_rt, tasQ_nx, tasQ_bk, tasQ_ct, e_attr, g_setF, g_appF, e_meth, e_methM, e_make, g_asgL, mkQ_ok, mkQ_ex, e_dnew, g_dput, g_dputF, g_ddelF, g_ddel, g_dpopS, e_keys, e_isC, has_some, sl_0, sl_s, st_0, st_s, v_add, v_sub, v_neg, v_lt, v_le, v_gt, v_ge, v_eqi, v_nei, v_is, v_isNot, v_len, v_lenT, v_abs, v_int, v_intB, v_item, v_itemT, v_list, v_max, v_min, v_repr, blD_bl, truD_bl, truD_lst, isF_int, isF_bl, isF_non, isF_tup, isF_str, isF_lf, isF_lk, isF_lo, isF_ll, at_0, at_1, at_2, at_3, at_4, at_5, ix_0, ix_1, ix_2, cap_i, cap_t, noL_i, noL_n, noL_b, noL_t, ck_0, ck_s, lk_0, lk_1, lk_2, lk_3, lk_4, ln_0, ln_1, ln_2, ln_3, ln_4, own_o, own_l, own_f, its_o, its_l, its_f, lend_o, lend_i, lend_b, lend_n, lend_s, lend_t, cap_k, cap_f, lend_l, lend_f, sh_o, sh_l, sh_f, sh_k, Bool.or_true, Bool.true_or, Bool.or_false, Bool.false_or, intD, isLst, lstO, List.set_cons_zero, List.set_cons_succ, bind_S, ty_i, ty_b, ty_s, ty_t, ty_l, ty_n, is_ii, is_ib, is_is, is_it, is_il, is_bi, is_bb, is_bs, is_bt, is_bl, is_si, is_sb, is_ss, is_st, is_sl, is_ti, is_tb, is_ts, is_tt, is_tl, is_li, is_lb, is_ls, is_lt, is_ll, is_ni, is_nb, is_ns, is_nt, is_nl, v_eqS, v_neS, v_inS, v_notInS, truD_n, truD_t, cap_o, cap_s, cap_n, cap_b, noL_s, its_t, own_t, own_s, its_s, sv_n, sv_i, sv_s, sv_b, isStr_s, isNon_n, isNon_i, isNon_s, isNon_t, isNon_l, v_tup, noL_lo, noL_lf, frz_lo, frz_lf, insOf_s, insO_s, isIns_s, lstS_o, lstS_l, lstS_f, v_rev, lend_ioo, lend_ill, lend_if, lendN_0, lendN_s, frzN_0, frzN_s, cap_ioo, cap_if, frz_ioo, isF_ioo, isF_ill, isF_if, lstO_o, lk_00, pu_00, lk_01, pu_01, lk_02, pu_02, lk_03, pu_03, lk_04, pu_04, lk_05, pu_05, lk_06, pu_06, lk_10, pu_10, lk_11, pu_11, lk_12, pu_12, lk_13, pu_13, lk_14, pu_14, lk_15, pu_15, lk_16, pu_16, lk_20, pu_20, lk_21, pu_21, lk_22, pu_22, lk_23, pu_23, lk_24, pu_24, lk_25, pu_25, lk_26, pu_26, lk_30, pu_30, lk_31, pu_31, lk_32, pu_32, lk_33, pu_33, lk_34, pu_34, lk_35, pu_35, lk_36, pu_36, lk_40, pu_40, lk_41, pu_41, lk_42, pu_42, lk_43, pu_43, lk_44, pu_44, lk_45, pu_45, lk_46, pu_46, lk_50, pu_50, lk_51, pu_51, lk_52, pu_52, lk_53, pu_53, lk_54, pu_54, lk_55, pu_55, lk_56, pu_56, lk_60, pu_60, lk_61, pu_61, lk_62, pu_62, lk_63, pu_63, lk_64, pu_64, lk_65, pu_65, lk_66, pu_66, pu_n, l3_0, l3_1, l3_2, l3_3, l3_4, l3_5, l3_6, l3_7, dcO_o, key_s, key_i, isDic_d, isF_do, isF_dl, isF_df, lend_do, lend_dl, lend_df, frz_do, frz_df, cap_do, cap_df, noL_do, noL_df, own_d, v_itemUl, v_itemUt, v_inUl, v_inUt, v_notInUl, v_notInUt, v_inUs, v_inUi, v_notInUs, v_notInUi, v_lenUd, v_lenUl, v_lenUt, v_sortedUl, noL_ioo, noL_if, noL_ill, noLN_0, noLN_s, isC_1, isC_int, dcS_o, dcS_l, dcS_f, forL_0, kL_nx, kL_ct, kL_bk, kL_rt, kL_ex, tg_n, tg_t, tg_0, tg_s, wp_0, wp_s, bk_0, bk_s, rd_0, rd_s, sb_a, sb_l, si_a, si_l, hd_0, out_t, out_f, argD, ite_self, List.map_cons, List.map_nil, List.append_nil, List.cons_append, List.nil_append, Bool.and_true, Bool.true_and, Bool.not_true, Bool.not_false, Bool.and_false, Bool.false_and, true_and, and_true, decide_eq_true_eq, Bool.false_eq_true, if_false, if_true, ite_true, ite_false, reduceIte, Bool.not_eq_true', Bool.true_eq_false, eq_self, $xs,*])
local macro_rules | `(tactic| dsimp! [$xs,*]) => `(tactic| (refine step ?_ (fun k Q hk => ?_) ?_; rotate_left; (simp only [e_cst, e_nil, e_yes, e_var, e_fv, e_mv, e_cons, e_dfr, e_op, e_tup, e_lst, e_tr, e_notT, e_andT, e_orT, e_andV, e_orV, e_notV, e_opq, e_if, e_call, e_callM, e_chain, e_src, e_rng, e_lc, g_nx, g_retN, g_brk, g_cnt, g_seq, g_drop, g_ret, g_asg, g_if, g_for, g_app, g_set, kk_ok, kS_ok, kQ_nx, kQ_rt, kQ_bk, kQ_ct, kk_ex, kS_ex, kQ_ex, g_raise, e_isi, g_asgT, e_grd, g_try, g_tryAs, g_appT, e_chainN, lkQ_1, lkQ_2, noX_rt, noX_nx, noX_bk, noX_ct, hdQ_0, hdQ_s, tryQ_ex, tryQ_rt, tryQ_nx, tryQ_bk, tryQ_ct, tasQ_ex, tasQ_rt, tasQ_nx, tasQ_bk, tasQ_ct, e_attr, g_setF, g_appF, e_meth, e_methM, e_make, g_asgL, mkQ_ok, mkQ_ex, e_dnew, g_dput, g_dputF, g_ddelF, g_ddel, g_dpopS, e_keys, e_isC, has_some, sl_0, sl_s, st_0, st_s, v_add, v_sub, v_neg, v_lt, v_le, v_gt, v_ge, v_eqi, v_nei, v_is, v_isNot, v_len, v_lenT, v_abs, v_int, v_intB, v_item, v_itemT, v_list, v_max, v_min, v_repr, blD_bl, truD_bl, truD_lst, isF_int, isF_bl, isF_non, isF_tup, isF_str, isF_lf, isF_lk, isF_lo, isF_ll, at_0, at_1, at_2, at_3, at_4, at_5, ix_0, ix_1, ix_2, cap_i, cap_t, noL_i, noL_n, noL_b, noL_t, ck_0, ck_s, lk_0, lk_1, lk_2, lk_3, lk_4, ln_0, ln_1, ln_2, ln_3, ln_4, own_o, own_l, own_f, its_o, its_l, its_f, lend_o, lend_i, lend_b, lend_n, lend_s, lend_t, cap_k, cap_f, lend_l, lend_f, sh_o, sh_l, sh_f, sh_k, Bool.or_true, Bool.true_or, Bool.or_false, Bool.false_or, intD, isLst, lstO, List.set_cons_zero, List.set_cons_succ, bind_S, ty_i, ty_b, ty_s, ty_t, ty_l, ty_n, is_ii, is_ib, is_is, is_it, is_il, is_bi, is_bb, is_bs, is_bt, is_bl, is_si, is_sb, is_ss, is_st, is_sl, is_ti, is_tb, is_ts, is_tt, is_tl, is_li, is_lb, is_ls, is_lt, is_ll, is_ni, is_nb, is_ns, is_nt, is_nl, v_eqS, v_neS, v_inS, v_notInS, truD_n, truD_t, cap_o, cap_s, cap_n, cap_b, noL_s, its_t, own_t, own_s, its_s, sv_n, sv_i, sv_s, sv_b, isStr_s, isNon_n, isNon_i, isNon_s, isNon_t, isNon_l, v_tup, noL_lo, noL_lf, frz_lo, frz_lf, insOf_s, insO_s, isIns_s, lstS_o, lstS_l, lstS_f, v_rev, lend_ioo, lend_ill, lend_if, lendN_0, lendN_s, frzN_0, frzN_s, cap_ioo, cap_if, frz_ioo, isF_ioo, isF_ill, isF_if, lstO_o, lk_00, pu_00, lk_01, pu_01, lk_02, pu_02, lk_03, pu_03, lk_04, pu_04, lk_05, pu_05, lk_06, pu_06, lk_10, pu_10, lk_11, pu_11, lk_12, pu_12, lk_13, pu_13, lk_14, pu_14, lk_15, pu_15, lk_16, pu_16, lk_20, pu_20, lk_21, pu_21, lk_22, pu_22, lk_23, pu_23, lk_24, pu_24, lk_25, pu_25, lk_26, pu_26, lk_30, pu_30, lk_31, pu_31, lk_32, pu_32, lk_33, pu_33, lk_34, pu_34, lk_35, pu_35, lk_36, pu_36, lk_40, pu_40, lk_41, pu_41, lk_42, pu_42, lk_43, pu_43, lk_44, pu_44, lk_45, pu_45, lk_46, pu_46, lk_50, pu_50, lk_51, pu_51, lk_52, pu_52, lk_53, pu_53, lk_54, pu_54, lk_55, pu_55, lk_56, pu_56, lk_60, pu_60, lk_61, pu_61, lk_62, pu_62, lk_63, pu_63, lk_64, pu_64, lk_65, pu_65, lk_66, pu_66, pu_n, l3_0, l3_1, l3_2, l3_3, l3_4, l3_5, l3_6, l3_7, dcO_o, key_s, key_i, isDic_d, isF_do, isF_dl, isF_df, lend_do, lend_dl, lend_df, frz_do, frz_df, cap_do, cap_df, noL_do, noL_df, own_d, v_itemUl, v_itemUt, v_inUl, v_inUt, v_notInUl, v_notInUt, v_inUs, v_inUi, v_notInUs, v_notInUi, v_lenUd, v_lenUl, v_lenUt, v_sortedUl, noL_ioo, noL_if, noL_ill, noLN_0, noLN_s, isC_1, isC_int, dcS_o, dcS_l, dcS_f, forL_0, kL_nx, kL_ct, kL_bk, kL_rt, kL_ex, tg_n, tg_t, tg_0, tg_s, wp_0, wp_s, bk_0, bk_s, rd_0, rd_s, sb_a, sb_l, si_a, si_l, hd_0, out_t, out_f, argD, ite_self, List.map_cons, List.map_nil, List.append_nil, List.cons_append, List.nil_append, Bool.and_true, Bool.true_and, Bool.not_true, Bool.not_false, Bool.and_false, Bool.false_and, true_and, and_true, decide_eq_true_eq, Bool.false_eq_true, if_false, if_true, ite_true, ite_false, reduceIte, Bool.not_eq_true', Bool.true_eq_false, eq_self, $xs,*]; exact hk)))
theorem ne_pp {m n : Fl} (xs : Sp) : gNe [spD m xs, spD n xs] = some (.bl false) := by rw [ne_p]; simp
theorem ne_ii (i : Int) : gNe [.int i, .int i] = some (.bl false) := by
  show some (D.bl (!decide (i = i))) = _
  simp
theorem ne_il {m n : Fl} (xs : List Int) : gNe [miD m xs, miD n xs] = some (.bl false) := by rw [ne_i]; simp
theorem eq_bb' (a b : Bool) : gEq [.bl a, .bl b] = some (.bl (a == b)) := by
  cases a <;> cases b <;> rfl
theorem lp_law {ns : List Int} {ps qs : Sp} (hp : Pts ps) (hq : Pts qs) {a3 a8 : Option D} {K : ES → Prop} : ∀ (ks : List Int) (p : Nat) (v : Int) (a7 a9 a10 a11 a12 a13 a14 a15 a16 a17 : Option D), 0 ≤ v →
    (∀ (p' : Nat) v' a7 a9 a10 a11 a12 a13 a14 a15 a16 a17, 0 ≤ v' → K (.nx, [some (scr ns), some (stt ns p' v'), some (spD .o ps), a3, some (tiD .oo .o ps), some (spD .o qs), some (tiD .oo .o qs), a7, a8, a9, a10, a11, a12, a13, a14, a15, a16, a17, none, none, none])) →
    has (evForL (tgName 7) bd_law_18 (ks.map .int) [some (scr ns), some (stt ns p v), some (spD .o ps), a3, some (tiD .oo .o ps), some (spD .o qs), some (tiD .oo .o qs), a7, a8, a9, a10, a11, a12, a13, a14, a15, a16, a17, none, none, none]) K
  | [], p, v, a7, a9, a10, a11, a12, a13, a14, a15, a16, a17, hv, hK => by
    simp! []
    exact hK p v _ _ _ _ _ _ _ _ _ _ hv
  | x :: ks, p, v, a7, a9, a10, a11, a12, a13, a14, a15, a16, a17, hv, hK => by
    obtain ⟨lv, p1, v1, q1, q2, q3, el⟩ := take_ok ns p v 45 hv (by omega) (by omega)
    obtain ⟨b, p2, v2, r1, r2, r3, eb⟩ := take_ok ns p1 v1 40 q3 (by omega) (by omega)
    obtain ⟨w, p3, v3, s1, s2, s3, ew⟩ := take_ok ns p2 v2 40 r3 (by omega) (by omega)
    rw [List.map_cons, forL_s]
    simp! []
    unfold bd_law_18
    dsimp! [el]
    dsimp! [eb]
    dsimp! [ew]
    obtain ⟨e, he⟩ : ∃ e, e = b + w := ⟨_, rfl⟩
    rw [← he]
    have er := rng2_i b (e + 1) ⟨by omega, by omega, by omega, by omega⟩
    have hhl := high_len ps lv b e
    have hol := ofP_len (highM ps lv b e)
    have eA := ok_above (Ti.l (ps := ps)) hp lv (b := b) (e := e) (by omega) (by omega) (by omega) (by omega)
    have eO := ok_of (m := .l) rfl (highM ps lv b e) (by omega)
    have n1 := ne_pp (m := .f) (n := .o) (ofP (highM ps lv b e))
    have n1' := ne_pp (m := .o) (n := .o) (ofP (highM ps lv b e))
    refine step ?_ (fun k Q hk => ?_) ?_
    rotate_left
    · simp! [er]
      refine has_cmpF (fun t => decide (lv ≤ H ps t)) (fun t => t) .int (fun _ => rfl) (mins b (e + 1 - b).toNat) (by rw [mins_len]; omega) (fun t ht => ?_) ?_
      · have g2 := ok_lawh RO.l hp t
        simp! [ct_law_4, ce_law_5, g2]
      · have e1 : ((mins b (e + 1 - b).toNat).filter fun t => decide (lv ≤ H ps t)).map (fun t => t) = highM ps lv b e := List.map_id' _
        simp! [e1]
        exact hk
    dsimp! [eA, eO, n1, n1']
    have da := dueA_len b (ofP (highM ps lv b e))
    have db := dueB_len e (ofP (highM ps lv b e))
    refine step ?_ (fun k Q hk => ?_) ?_
    rotate_left
    · simp! [eO]
      refine has_cmpF (fun q : Int × Int => decide (b < q.1)) (fun q => (q.1, true)) pb (fun _ => rfl) (ofP (highM ps lv b e)) (by omega) (fun q hq => ?_) ?_
      · simp! [pr, ct_law_8, ce_law_9, pb]
      · have e1 : ((ofP (highM ps lv b e)).filter fun q => decide (b < q.1)).map (fun q => (q.1, true)) = dueA b (ofP (highM ps lv b e)) := rfl
        simp! [e1, eO]
        refine has_cmpF (fun q : Int × Int => decide (q.2 < e)) (fun q => (q.2 + 1, false)) pb (fun _ => rfl) (ofP (highM ps lv b e)) (by omega) (fun q hq => ?_) ?_
        · simp! [pr, ct_law_6, ce_law_7, pb]
        · have e2 : ((ofP (highM ps lv b e)).filter fun q => decide (q.2 < e)).map (fun q => (q.2 + 1, false)) = dueB e (ofP (highM ps lv b e)) := rfl
          have e3 := add_g pb (dueA b (ofP (highM ps lv b e))) (dueB e (ofP (highM ps lv b e))) (by omega)
          simp! [e2, e3]
          exact hk
    have eT := ok_turns (Ti.l (ps := ps)) hp lv (b := b) (e := e) (by omega) (by omega) (by omega) (by omega)
    have eS := sorted_pb (m := .o) rfl (dueA b (ofP (highM ps lv b e)) ++ dueB e (ofP (highM ps lv b e))) (by rw [List.length_append]; omega)
    rw [due_sorted] at eS
    have n2 := ne_pb (m := .f) (n := .o) (trnL b e (ofP (highM ps lv b e)))
    have n2' := ne_pb (m := .o) (n := .o) (trnL b e (ofP (highM ps lv b e)))
    dsimp! [eT, eS, n2, n2']
    refine step ?_ (fun k Q hk => ?_) ?_
    rotate_left
    · simp! [er]
      refine has_cmpA (H ps) .int (fun _ => rfl) (mins b (e + 1 - b).toNat) (by rw [mins_len]; omega) (fun t ht => ?_) ?_
      · have g2 := ok_lawh RO.l hp t
        simp! [ct_law_10, ce_law_11, g2]
      · simp! []
        exact hk
    obtain ⟨hv, w1, w2, w3, w4, eH⟩ := ok_highest (Ti.l (ps := ps)) hp (b := b) (e := e) (by omega) (by omega) (by omega) (by omega)
    have eM := heights_max w1 w2 w3
    have eI := heights_index w1 w2 w4
    have e5 : b + (hv - b) = hv := by omega
    dsimp! [eH, eM, eI, isLst1, e5, ne_ii]
    refine step ?_ (fun k Q hk => ?_) ?_
    rotate_left
    · simp! [er]
      refine has_cmpF (fun t => decide (0 < 1 * (H ps (t + 1) - H ps t))) (fun t => t) .int (fun _ => rfl) (mins b (e + 1 - b).toNat) (by rw [mins_len]; omega) (fun t ht => ?_) ?_
      · have g1 := ok_lawh RO.l hp (t + 1)
        have g2 := ok_lawh RO.l hp t
        have ee : (0 < 1 * (H ps (t + 1) - H ps t)) = (H ps t < H ps (t + 1)) := by rw [eq_iff_iff]; omega
        simp! [ct_law_12, ce_law_13, g1, g2, ee]
      · have e1 : ((mins b (e + 1 - b).toNat).filter fun t => decide (0 < 1 * (H ps (t + 1) - H ps t))).map (fun t => t) = risM ps 1 b e := List.map_id' _
        simp! [e1]
        exact hk
    refine step ?_ (fun k Q hk => ?_) ?_
    rotate_left
    · simp! [er]
      refine has_cmpF (fun t => decide (0 < -1 * (H ps (t + 1) - H ps t))) (fun t => t) .int (fun _ => rfl) (mins b (e + 1 - b).toNat) (by rw [mins_len]; omega) (fun t ht => ?_) ?_
      · have g1 := ok_lawh RO.l hp (t + 1)
        have g2 := ok_lawh RO.l hp t
        have ee : (0 < -1 * (H ps (t + 1) - H ps t)) = (H ps (t + 1) < H ps t) := by rw [eq_iff_iff]; omega
        simp! [ct_law_14, ce_law_15, g1, g2, ee]
      · have e1 : ((mins b (e + 1 - b).toNat).filter fun t => decide (0 < -1 * (H ps (t + 1) - H ps t))).map (fun t => t) = risM ps (-1) b e := List.map_id' _
        simp! [e1]
        exact hk
    have rl : ∀ s, (risM ps s b e).length ≤ 100 := fun s => by
      have := List.length_filter_le (fun t => decide (0 < s * (H ps (t + 1) - H ps t))) (mins b (e + 1 - b).toNat)
      rw [mins_len] at this
      unfold risM; omega
    have eF := ok_flood (Ti.l (ps := ps)) hp (b := b) (e := e) (by omega) (by omega) (by omega) (by omega)
    have eE := ok_ebb (Ti.l (ps := ps)) hp (b := b) (e := e) (by omega) (by omega) (by omega) (by omega)
    have eO1 := ok_of (m := .l) rfl (risM ps 1 b e) (by have := rl 1; omega)
    have eO2 := ok_of (m := .l) rfl (risM ps (-1) b e) (by have := rl (-1); omega)
    have n3 := ne_pp (m := .o) (n := .o) (ofP (risM ps 1 b e))
    have n4 := ne_pp (m := .o) (n := .o) (ofP (risM ps (-1) b e))
    dsimp! [eF, eE, eO1, eO2, n3, n4]
    refine step ?_ (fun k Q hk => ?_) ?_
    rotate_left
    · simp! [er]
      refine has_cmpF (fun t => decide (lv ≤ H ps t) == decide (lv ≤ H qs t)) (fun t => t) .int (fun _ => rfl) (mins b (e + 1 - b).toNat) (by rw [mins_len]; omega) (fun t ht => ?_) ?_
      · have g1 := ok_lawh RO.l hp t
        have g2 := ok_lawh RO.l hq t
        simp! [ct_law_16, ce_law_17, g1, g2, eq_bb']
      · have e1 : ((mins b (e + 1 - b).toNat).filter fun t => decide (lv ≤ H ps t) == decide (lv ≤ H qs t)).map (fun t => t) = sameM ps qs lv b e := List.map_id' _
        simp! [e1]
        exact hk
    have eG := ok_agree (Ti.l (ps := ps)) (Ti.l (ps := qs)) hp hq lv (b := b) (e := e) (by omega) (by omega) (by omega) (by omega)
    dsimp! [eG, List.length_map, ne_ii]
    simp! []
    exact lp_law hp hq ks p3 v3 _ _ _ _ _ _ _ _ _ _ s3 hK
theorem law_ok (ns : List Int) (hl : ns.length ≤ 63) : LawOk F_law ns := by
  unfold LawOk
  refine ⟨[none], ?_⟩
  unfold F_law
  refine fn_go rfl ?_
  show Go ev_law [some (scr ns), none, none, none, none, none, none, none, none, none, none, none, none, none, none, none, none, none, none, none, none] _
  unfold ev_law
  have lk : ([D.lst .k (ns.map .int), .int 0, .int 0].length ≤ 1000) = True := eq_true (by simp)
  dsimp! [lk]
  obtain ⟨ps, p1, v1, a1, hp, hd, ep⟩ := ok_drawn ns 0 0 (by omega) (mo := 6) (far := 12) (by omega) (by omega) (by omega) (by omega)
  have ep : F__law_points [stt ns 0 0, .int 6, .int 12] = _ := ep
  dsimp! [ep]
  dsimp! [ep]
  have et := ok_tinit RO.f hp
  have et' := ok_tinit RO.l hp
  dsimp! [et, et']
  have hl2 : (ps.map pr).length < 1000000 := by rw [List.length_map]; have := hp.le; omega
  dsimp! [hl2]
  obtain ⟨qs, p2, v2, a2, hq, hdq, eq⟩ := ok_drawn ns p1 v1 a1 (mo := 6) (far := 12) (by omega) (by omega) (by omega) (by omega)
  dsimp! [eq]
  have eu := ok_tinit RO.f hq
  have eu' := ok_tinit RO.l hq
  dsimp! [eu, eu']
  have eP := ok_points (Ti.l (ps := ps))
  have n1 := ne_pp (m := .o) (n := .o) ps
  have er := rng1_i 80 (by decide)
  refine step ?_ (fun k Q hk => ?_) ?_
  rotate_left
  · simp! [eP, n1, er]
    refine has_cmpA (H ps) .int (fun _ => rfl) (mins 0 (80 : Int).toNat) (by rw [mins_len]; decide) (fun t ht => ?_) ?_
    · have g2 := ok_height (Ti.l (ps := ps)) hp t
      simp! [ct_law_2, ce_law_3, g2]
    · simp! [er]
      refine has_cmpA (H ps) .int (fun _ => rfl) (mins 0 (80 : Int).toNat) (by rw [mins_len]; decide) (fun t ht => ?_) ?_
      · have g2 := ok_lawh RO.l hp t
        simp! [ct_law_0, ce_law_1, g2]
      · have n2 := ne_il (m := .o) (n := .o) ((mins 0 (80 : Int).toNat).map (H ps))
        simp! [n2]
        exact hk
  have er3 := rng1_i 3 (by decide)
  obtain ⟨a3, h3⟩ : ∃ a3, a3 = some (D.lst Fl.o (ps.map pr ++ [D.tup [D.int 5, D.int 5]])) := ⟨_, rfl⟩
  rw [← h3]
  refine stepE (fun δ' => ∃ (p' : Nat) (v' : Int) (a7 a9 a10 a11 a12 a13 a14 a15 a16 a17 : Option D), 0 ≤ v' ∧ δ' = [some (scr ns), some (stt ns p' v'), some (spD .o ps), a3, some (tiD .oo .o ps), some (spD .o qs), some (tiD .oo .o qs), a7, none, a9, a10, a11, a12, a13, a14, a15, a16, a17, none, none, none]) (fun QQ hqq => ?_) ?_
  · simp! [er3]
    refine lp_law hp hq (mins 0 (3 : Int).toNat) p2 v2 _ _ _ _ _ _ _ _ _ _ a2 fun p' v' a7 a9 a10 a11 a12 a13 a14 a15 a16 a17 hv' => ?_
    exact hqq _ ⟨p', v', a7, a9, a10, a11, a12, a13, a14, a15, a16, a17, hv', rfl⟩
  rintro _ ⟨p', v', a7, a9, a10, a11, a12, a13, a14, a15, a16, a17, hv', rfl⟩
  have eM := ok_moved (Ti.l (ps := ps)) hp hd
  dsimp! [eM]
  have eQ := ok_points (Ti.l (ps := ps.map fun q => (q.1 + 7, q.2 + 2)))
  have hle := hp.le
  refine step ?_ (fun k Q hk => ?_) ?_
  rotate_left
  · simp! [eQ]
    refine has_cmpA (fun q : Int × Int => (q.1 + 7, q.2 + 2)) pr (fun _ => rfl) ps (by omega) (fun q hq => ?_) ?_
    · simp! [ct_law_19, ce_law_20, pr]
    · have n3 := ne_pp (m := .o) (n := .o) (ps.map fun q => (q.1 + 7, q.2 + 2))
      have e2 := eqI_t ps qs
      have e3 := eq_p (m := .o) (n := .o) ps qs
      have n4 : ∀ s : Str, gNe [.str s, .str s] = some (.bl false) := fun s => by
        rw [v_neS]; simp
      simp! [n3, e2, e3, n4]
      exact hk
  have e2 := eqI_t ps ps
  have e3 := eqI_5 ps 5
  have e4 := ok_height (Ti.l (ps := ps.map fun q => (q.1 + 7, q.2 + 2))) (hm13 hp hd) 30
  have e5 := ok_lawh RO.l hp 23
  have e6 : H (ps.map fun q => (q.1 + 7, q.2 + 2)) 30 = H ps 23 + 2 := H_mv hp.ne 23
  simp! [et, et', e2, e3, e4, e5, e6, decide_true]
  first | rfl | exact ⟨rfl, rfl⟩
end K13
namespace K13
open PySem L2 PD PyProof.Rows
def enames : List Str := ["BarError", "InvalidNumber", "TooMany"]
def xnames : List Str := ["BarError", "InvalidNumber", "TooMany", "Tide"]
def fnames : List Str := ["_points"]
def gc (K : PySem.W.Frag) : GC := gcF xnames fnames K
def d_tidy : He.DefD := ⟨("tidy", none), "tidy", "tidy", defArgs s_tidy, defBody s_tidy, defScope s_tidy, [], []⟩
def d__between : He.DefD := ⟨("_between", none), "_between", "_between", defArgs s__between, defBody s__between, defScope s__between, [], []⟩
def d_Tide__height : He.DefD := ⟨("Tide", some "height"), "height", "Tide.height", defArgs s_Tide__height, defBody s_Tide__height, defScope s_Tide__height, [], []⟩
def d_Tide___turn : He.DefD := ⟨("Tide", some "_turn"), "_turn", "Tide._turn", defArgs s_Tide___turn, defBody s_Tide___turn, defScope s_Tide___turn, [], []⟩
def d_Tide___piece : He.DefD := ⟨("Tide", some "_piece"), "_piece", "Tide._piece", defArgs s_Tide___piece, defBody s_Tide___piece, defScope s_Tide___piece, [], []⟩
def d_Tide__spans_above : He.DefD := ⟨("Tide", some "spans_above"), "spans_above", "Tide.spans_above", defArgs s_Tide__spans_above, defBody s_Tide__spans_above, defScope s_Tide__spans_above, [], []⟩
def d_Tide__points : He.DefD := ⟨("Tide", some "points"), "points", "Tide.points", defArgs s_Tide__points, defBody s_Tide__points, defScope s_Tide__points, [], []⟩
def d_Tide____eq__ : He.DefD := ⟨("Tide", some "__eq__"), "__eq__", "Tide.__eq__", defArgs s_Tide____eq__, defBody s_Tide____eq__, defScope s_Tide____eq__, [], []⟩
def d_is_number : He.DefD := ⟨("is_number", none), "is_number", "is_number", defArgs s_is_number, defBody s_is_number, defScope s_is_number, [.int 0, .int 1000000], []⟩
def d_checked_number : He.DefD := ⟨("checked_number", none), "checked_number", "checked_number", defArgs s_checked_number, defBody s_checked_number, defScope s_checked_number, [.int 0, .int 1000000], []⟩
def d_Tide____init__ : He.DefD := ⟨("Tide", some "__init__"), "__init__", "Tide.__init__", defArgs s_Tide____init__, defBody s_Tide____init__, defScope s_Tide____init__, [], []⟩
def d__first_as_high : He.DefD := ⟨("_first_as_high", none), "_first_as_high", "_first_as_high", defArgs s__first_as_high, defBody s__first_as_high, defScope s__first_as_high, [], []⟩
def d_Tide__highest : He.DefD := ⟨("Tide", some "highest"), "highest", "Tide.highest", defArgs s_Tide__highest, defBody s_Tide__highest, defScope s_Tide__highest, [], []⟩
def d_moved : He.DefD := ⟨("moved", none), "moved", "moved", defArgs s_moved, defBody s_moved, defScope s_moved, [], []⟩
def d__spans_where : He.DefD := ⟨("_spans_where", none), "_spans_where", "_spans_where", defArgs s__spans_where, defBody s__spans_where, defScope s__spans_where, [], []⟩
def d_flood : He.DefD := ⟨("flood", none), "flood", "flood", defArgs s_flood, defBody s_flood, defScope s_flood, [], []⟩
def d_ebb : He.DefD := ⟨("ebb", none), "ebb", "ebb", defArgs s_ebb, defBody s_ebb, defScope s_ebb, [], []⟩
def d_meet_spans : He.DefD := ⟨("meet_spans", none), "meet_spans", "meet_spans", defArgs s_meet_spans, defBody s_meet_spans, defScope s_meet_spans, [], []⟩
def d_turned : He.DefD := ⟨("turned", none), "turned", "turned", defArgs s_turned, defBody s_turned, defScope s_turned, [], []⟩
def d_length : He.DefD := ⟨("length", none), "length", "length", defArgs s_length, defBody s_length, defScope s_length, [], []⟩
def d_agreement : He.DefD := ⟨("agreement", none), "agreement", "agreement", defArgs s_agreement, defBody s_agreement, defScope s_agreement, [], []⟩
def d_turns_of : He.DefD := ⟨("turns_of", none), "turns_of", "turns_of", defArgs s_turns_of, defBody s_turns_of, defScope s_turns_of, [], []⟩
def d__law_cell : He.DefD := ⟨("_law_cell", none), "_law_cell", "_law_cell", defArgs s__law_cell, defBody s__law_cell, defScope s__law_cell, [], []⟩
def d__law_take : He.DefD := ⟨("_law_take", none), "_law_take", "_law_take", defArgs s__law_take, defBody s__law_take, defScope s__law_take, [], []⟩
def d__law_points : He.DefD := ⟨("_law_points", none), "_law_points", "_law_points", defArgs s__law_points, defBody s__law_points, defScope s__law_points, [], []⟩
def d__law_height : He.DefD := ⟨("_law_height", none), "_law_height", "_law_height", defArgs s__law_height, defBody s__law_height, defScope s__law_height, [], []⟩
def d__law_of : He.DefD := ⟨("_law_of", none), "_law_of", "_law_of", defArgs s__law_of, defBody s__law_of, defScope s__law_of, [], []⟩
def d_law : He.DefD := ⟨("law", none), "law", "law", defArgs s_law, defBody s_law, defScope s_law, [], []⟩
def fn : List He.DefD := [d_tidy, d__between, d_Tide__height, d_Tide___turn, d_Tide___piece, d_Tide__spans_above, d_Tide__points, d_Tide____eq__, d_is_number, d_checked_number, d_Tide____init__, d__first_as_high, d_Tide__highest, d_moved, d__spans_where, d_flood, d_ebb, d_meet_spans, d_turned, d_length, d_agreement, d_turns_of, d__law_cell, d__law_take, d__law_points, d__law_height, d__law_of, d_law]
def fa : List He.Fa := [.glo "tidy", .glo "_between", .glo "is_number", .glo "checked_number", .glo "_first_as_high", .glo "moved", .glo "_spans_where", .glo "flood", .glo "ebb", .glo "meet_spans", .glo "turned", .glo "length", .glo "agreement", .glo "turns_of", .glo "_law_cell", .glo "_law_take", .glo "_law_points", .glo "_law_height", .glo "_law_of", .glo "law", .free "abs", .free "bool", .free "int", .free "isinstance", .free "len", .free "list", .free "max", .free "min", .free "range", .free "repr", .free "sorted", .free "str", .free "sum", .int "FARTHEST" 20000, .int "MOST" 60, .glo "InvalidNumber", .exc "InvalidNumber", .glo "TooMany", .exc "TooMany", .cls "Tide", .glo "Tide", .noat "Tide" "_points", .meth "Tide" "height", .meth "Tide" "_turn", .meth "Tide" "_piece", .meth "Tide" "spans_above", .meth "Tide" "points", .meth "Tide" "__eq__", .mkr "Tide", .meth "Tide" "highest"]
abbrev R : PySem.W.OpenRow := PySem.W.OpenLaw.row PySem.Challenge.rw_overbar_k13_water_that_is_high_enough
def more (K : PySem.W.Frag) : Bool := PySem.W.notFirst K ((gc K).cls 3) (.type "int") && (icB K ((gc K).cls 3))
abbrev hk : PySem.W.Hook := He.hookX 5 fa fn [] [] more
def ob (s : PySem.W.SharedT) : He.AlX := He.obsX 5 fa fn [] [] more (HandSHeadRun.getT s)
theorem ob_eq (s : PySem.W.SharedT) : ob s = hk.obs s.abs := He.obsX_eq (HandSHeadRun.getT_eq s)
def loose0 : List Str := ["_wall", "BarError", "InvalidNumber", "TooMany", "GREATEST", "is_number", "checked_number", "FARTHEST", "meet_spans", "tidy", "turned", "length", "MOST", "Tide", "_between", "_first_as_high", "moved", "flood", "ebb", "_spans_where", "agreement", "turns_of", "_law_cell", "_law_take", "_law_points", "_law_height", "_law_of"]
def loose : List Str := loose0
theorem run (w : World) : HandSHeadRun.RunEq R (PySem.W.view R.prog [33]) hk ob 6160 loose w := by
  intro os
  kernel_rfl
theorem facts {P : Program} {w : World} {K : PySem.W.Frag} {h : Heap} {mg : Str → Option Value} {f : Addr} (X : K.In h) (G : h.Ns mainGlobals mg) (hfa : mg ("law" : Str) = some (.ref f)) (cx : He.SaysX fa fn [] [] more w h K) :
    ∃ fd : FuncData, (∀ (s : Shared) (v : Value), BindsTo s fd ⟨[v], []⟩ [("script", v)]) ∧ ∀ base : Heap, K.In base → base.Ns mainGlobals mg → FnOk P w K mg base (L2.CX P w) 8 f fd ["script"] (spF (gc K) F_law) := by
  have c := cx.t.d
  obtain ⟨fd_tidy, D_tidy⟩ := c.def_ 0 (d := d_tidy) rfl
  have g_tidy := He.glo_ok X G (c.fact 0 (f := .glo "tidy") rfl)
  obtain ⟨fd__between, D__between⟩ := c.def_ 1 (d := d__between) rfl
  have g__between := He.glo_ok X G (c.fact 1 (f := .glo "_between") rfl)
  obtain ⟨fd_Tide__height, D_Tide__height⟩ := c.def_ 2 (d := d_Tide__height) rfl
  obtain ⟨fd_Tide___turn, D_Tide___turn⟩ := c.def_ 3 (d := d_Tide___turn) rfl
  obtain ⟨fd_Tide___piece, D_Tide___piece⟩ := c.def_ 4 (d := d_Tide___piece) rfl
  obtain ⟨fd_Tide__spans_above, D_Tide__spans_above⟩ := c.def_ 5 (d := d_Tide__spans_above) rfl
  obtain ⟨fd_Tide__points, D_Tide__points⟩ := c.def_ 6 (d := d_Tide__points) rfl
  obtain ⟨fd_Tide____eq__, D_Tide____eq__⟩ := c.def_ 7 (d := d_Tide____eq__) rfl
  obtain ⟨fd_is_number, D_is_number⟩ := c.def_ 8 (d := d_is_number) rfl
  have g_is_number := He.glo_ok X G (c.fact 2 (f := .glo "is_number") rfl)
  obtain ⟨fd_checked_number, D_checked_number⟩ := c.def_ 9 (d := d_checked_number) rfl
  have g_checked_number := He.glo_ok X G (c.fact 3 (f := .glo "checked_number") rfl)
  obtain ⟨fd_Tide____init__, D_Tide____init__⟩ := c.def_ 10 (d := d_Tide____init__) rfl
  obtain ⟨fd__first_as_high, D__first_as_high⟩ := c.def_ 11 (d := d__first_as_high) rfl
  have g__first_as_high := He.glo_ok X G (c.fact 4 (f := .glo "_first_as_high") rfl)
  obtain ⟨fd_Tide__highest, D_Tide__highest⟩ := c.def_ 12 (d := d_Tide__highest) rfl
  obtain ⟨fd_moved, D_moved⟩ := c.def_ 13 (d := d_moved) rfl
  have g_moved := He.glo_ok X G (c.fact 5 (f := .glo "moved") rfl)
  obtain ⟨fd__spans_where, D__spans_where⟩ := c.def_ 14 (d := d__spans_where) rfl
  have g__spans_where := He.glo_ok X G (c.fact 6 (f := .glo "_spans_where") rfl)
  obtain ⟨fd_flood, D_flood⟩ := c.def_ 15 (d := d_flood) rfl
  have g_flood := He.glo_ok X G (c.fact 7 (f := .glo "flood") rfl)
  obtain ⟨fd_ebb, D_ebb⟩ := c.def_ 16 (d := d_ebb) rfl
  have g_ebb := He.glo_ok X G (c.fact 8 (f := .glo "ebb") rfl)
  obtain ⟨fd_meet_spans, D_meet_spans⟩ := c.def_ 17 (d := d_meet_spans) rfl
  have g_meet_spans := He.glo_ok X G (c.fact 9 (f := .glo "meet_spans") rfl)
  obtain ⟨fd_turned, D_turned⟩ := c.def_ 18 (d := d_turned) rfl
  have g_turned := He.glo_ok X G (c.fact 10 (f := .glo "turned") rfl)
  obtain ⟨fd_length, D_length⟩ := c.def_ 19 (d := d_length) rfl
  have g_length := He.glo_ok X G (c.fact 11 (f := .glo "length") rfl)
  obtain ⟨fd_agreement, D_agreement⟩ := c.def_ 20 (d := d_agreement) rfl
  have g_agreement := He.glo_ok X G (c.fact 12 (f := .glo "agreement") rfl)
  obtain ⟨fd_turns_of, D_turns_of⟩ := c.def_ 21 (d := d_turns_of) rfl
  have g_turns_of := He.glo_ok X G (c.fact 13 (f := .glo "turns_of") rfl)
  obtain ⟨fd__law_cell, D__law_cell⟩ := c.def_ 22 (d := d__law_cell) rfl
  have g__law_cell := He.glo_ok X G (c.fact 14 (f := .glo "_law_cell") rfl)
  obtain ⟨fd__law_take, D__law_take⟩ := c.def_ 23 (d := d__law_take) rfl
  have g__law_take := He.glo_ok X G (c.fact 15 (f := .glo "_law_take") rfl)
  obtain ⟨fd__law_points, D__law_points⟩ := c.def_ 24 (d := d__law_points) rfl
  have g__law_points := He.glo_ok X G (c.fact 16 (f := .glo "_law_points") rfl)
  obtain ⟨fd__law_height, D__law_height⟩ := c.def_ 25 (d := d__law_height) rfl
  have g__law_height := He.glo_ok X G (c.fact 17 (f := .glo "_law_height") rfl)
  obtain ⟨fd__law_of, D__law_of⟩ := c.def_ 26 (d := d__law_of) rfl
  have g__law_of := He.glo_ok X G (c.fact 18 (f := .glo "_law_of") rfl)
  obtain ⟨fd_law, D_law⟩ := c.def_ 27 (d := d_law) rfl
  have g_law := He.glo_ok X G (c.fact 19 (f := .glo "law") rfl)
  have m_abs : mg (Str.ofString "abs") = none := He.free_ok X G (c.fact 20 (f := .free "abs") rfl)
  have m_bool : mg (Str.ofString "bool") = none := He.free_ok X G (c.fact 21 (f := .free "bool") rfl)
  have m_int : mg (Str.ofString "int") = none := He.free_ok X G (c.fact 22 (f := .free "int") rfl)
  have m_isinstance : mg (Str.ofString "isinstance") = none := He.free_ok X G (c.fact 23 (f := .free "isinstance") rfl)
  have m_len : mg (Str.ofString "len") = none := He.free_ok X G (c.fact 24 (f := .free "len") rfl)
  have m_list : mg (Str.ofString "list") = none := He.free_ok X G (c.fact 25 (f := .free "list") rfl)
  have m_max : mg (Str.ofString "max") = none := He.free_ok X G (c.fact 26 (f := .free "max") rfl)
  have m_min : mg (Str.ofString "min") = none := He.free_ok X G (c.fact 27 (f := .free "min") rfl)
  have m_range : mg (Str.ofString "range") = none := He.free_ok X G (c.fact 28 (f := .free "range") rfl)
  have m_repr : mg (Str.ofString "repr") = none := He.free_ok X G (c.fact 29 (f := .free "repr") rfl)
  have m_sorted : mg (Str.ofString "sorted") = none := He.free_ok X G (c.fact 30 (f := .free "sorted") rfl)
  have m_str : mg (Str.ofString "str") = none := He.free_ok X G (c.fact 31 (f := .free "str") rfl)
  have m_sum : mg (Str.ofString "sum") = none := He.free_ok X G (c.fact 32 (f := .free "sum") rfl)
  have e := hfa.symm.trans g_law
  cases e
  refine ⟨fd_law, fun s v => (FunD.bindsA (ps := ["script"]) D_law fun _ _ _ _ _ _ us hl => match us, hl with | [_], _ => rfl) s [v] rfl, fun base _ _ => ?_⟩
  have g_FARTHEST : ∃ u, mg (Str.ofString "FARTHEST") = some u ∧ RelV (.int 20000) u := let ⟨t, h⟩ := He.int_ok X G (c.fact 33 (f := .int "FARTHEST" 20000) rfl); ⟨_, h, t, rfl⟩
  have g_MOST : ∃ u, mg (Str.ofString "MOST") = some u ∧ RelV (.int 60) u := let ⟨t, h⟩ := He.int_ok X G (c.fact 34 (f := .int "MOST" 60) rfl); ⟨_, h, t, rfl⟩
  let E : En := ⟨P, w, K, mg, base⟩
  have x_InvalidNumber : ExF E (gc K) (Str.ofString "InvalidNumber") 1 := let e := He.exc_ok (c.fact 36 (f := .exc "InvalidNumber") rfl); ⟨He.glo_ok X G (c.fact 35 (f := .glo "InvalidNumber") rfl), e.1, e.2.1, e.2.2.1, e.2.2.2⟩
  have x_TooMany : ExF E (gc K) (Str.ofString "TooMany") 2 := let e := He.exc_ok (c.fact 38 (f := .exc "TooMany") rfl); ⟨He.glo_ok X G (c.fact 37 (f := .glo "TooMany") rfl), e.1, e.2.1, e.2.2.1, e.2.2.2⟩
  have hF : FldInj (gc K) := fldN_inj (by decide +kernel)
  have l_Tide : Cls K ((gc K).cls 3) := He.cls_ok (c.fact 39 (f := .cls "Tide") rfl)
  have g_Tide := He.glo_ok X G (c.fact 40 (f := .glo "Tide") rfl)
  have a_Tide__points : At1 E (gc K) 3 0 (Str.ofString "_points") := ⟨hF, l_Tide, He.noat_ok (c.fact 41 (f := .noat "Tide" "_points") rfl), show Str.ofString "_points" = fldN fnames 0 by decide +kernel⟩
  have w_Tide__height := He.meth_ok (c.fact 42 (f := .meth "Tide" "height") rfl)
  have n_Tide__height : ∀ k, (gc K).fld k ≠ Str.ofString "height" := fldN_ne (by decide +kernel) (by decide +kernel)
  have w_Tide___turn := He.meth_ok (c.fact 43 (f := .meth "Tide" "_turn") rfl)
  have n_Tide___turn : ∀ k, (gc K).fld k ≠ Str.ofString "_turn" := fldN_ne (by decide +kernel) (by decide +kernel)
  have w_Tide___piece := He.meth_ok (c.fact 44 (f := .meth "Tide" "_piece") rfl)
  have n_Tide___piece : ∀ k, (gc K).fld k ≠ Str.ofString "_piece" := fldN_ne (by decide +kernel) (by decide +kernel)
  have w_Tide__spans_above := He.meth_ok (c.fact 45 (f := .meth "Tide" "spans_above") rfl)
  have n_Tide__spans_above : ∀ k, (gc K).fld k ≠ Str.ofString "spans_above" := fldN_ne (by decide +kernel) (by decide +kernel)
  have w_Tide__points := He.meth_ok (c.fact 46 (f := .meth "Tide" "points") rfl)
  have n_Tide__points : ∀ k, (gc K).fld k ≠ Str.ofString "points" := fldN_ne (by decide +kernel) (by decide +kernel)
  have w_Tide____eq__ := He.meth_ok (c.fact 47 (f := .meth "Tide" "__eq__") rfl)
  have n_Tide____eq__ : ∀ k, (gc K).fld k ≠ Str.ofString "__eq__" := fldN_ne (by decide +kernel) (by decide +kernel)
  have w_Tide____init__ := He.mkr_ok (c.fact 48 (f := .mkr "Tide") rfl)
  have w_Tide__highest := He.meth_ok (c.fact 49 (f := .meth "Tide" "highest") rfl)
  have n_Tide__highest : ∀ k, (gc K).fld k ≠ Str.ofString "highest" := fldN_ne (by decide +kernel) (by decide +kernel)
  have mo := cx.more
  have mo0 : (PySem.W.notFirst K ((gc K).cls 3) (.type "int")) = true := (He.ba mo).1
  have mo := (He.ba mo).2
  have mo1 : (icB K ((gc K).cls 3)) = true := mo
  have q_Tide : PySem.W.notFirst E.K ((gc K).cls 3) (.type "int") = true := mo0
  have i_Tide : IsInsOk E.K (gc K) [(3, true)] 3 := icB_ok mo1 l_Tide
  have hG : (gc K).K = E.K := rfl
  have k_tidy := fd_of (E := E) (G := gc K) (m := false) D_tidy g_tidy sc_tidy (by decide) (by decide) (b_tidy (E := E) (G := gc K) hG m_max m_sorted)
  have c_tidy : Fd E (gc K) (Str.ofString "tidy") 1 F_tidy [] := fd_all k_tidy g_tidy D_tidy.kp (FunD.bindsN D_tidy fun _ _ _ _ _ _ us hl => match us, hl with | [_], _ => rfl)
  have k__between := fd_of (E := E) (G := gc K) (m := false) D__between g__between sc__between (by decide) (by decide) (b__between (E := E) (G := gc K) hG)
  have c__between : Fd E (gc K) (Str.ofString "_between") 1 F__between [] := fd_all k__between g__between D__between.kp (FunD.bindsN D__between fun _ _ _ _ _ _ us hl => match us, hl with | [_, _, _], _ => rfl)
  have k_Tide__height := fdm_of (E := E) (G := gc K) (m := false) D_Tide__height  sc_Tide__height (by decide) (by decide) (b_Tide__height (E := E) (G := gc K) hG a_Tide__points c__between)
  have c_Tide__height : FdM E (gc K) 3 (Str.ofString "height") 2 F_Tide__height [] := fdM_all k_Tide__height w_Tide__height (FunD.bindsN D_Tide__height fun _ _ _ _ _ _ us hl => match us, hl with | [_, _], _ => rfl) l_Tide n_Tide__height
  have k_Tide___turn := fdm_of (E := E) (G := gc K) (m := false) D_Tide___turn  sc_Tide___turn (by decide) (by decide) (b_Tide___turn (E := E) (G := gc K) hG c_Tide__height)
  have c_Tide___turn : FdM E (gc K) 3 (Str.ofString "_turn") 3 F_Tide___turn [] := fdM_all k_Tide___turn w_Tide___turn (FunD.bindsN D_Tide___turn fun _ _ _ _ _ _ us hl => match us, hl with | [_, _, _, _, _], _ => rfl) l_Tide n_Tide___turn
  have k_Tide___piece := fdm_of (E := E) (G := gc K) (m := false) D_Tide___piece  sc_Tide___piece (by decide) (by decide) (b_Tide___piece (E := E) (G := gc K) hG c_Tide___turn c_Tide__height)
  have c_Tide___piece : FdM E (gc K) 3 (Str.ofString "_piece") 4 F_Tide___piece [] := fdM_all k_Tide___piece w_Tide___piece (FunD.bindsN D_Tide___piece fun _ _ _ _ _ _ us hl => match us, hl with | [_, _, _, _], _ => rfl) l_Tide n_Tide___piece
  have k_Tide__spans_above := fdm_of (E := E) (G := gc K) (m := false) D_Tide__spans_above  sc_Tide__spans_above (by decide) (by decide) (b_Tide__spans_above (E := E) (G := gc K) hG m_len m_range m_sorted a_Tide__points c_Tide___piece c_tidy)
  have c_Tide__spans_above : FdM E (gc K) 3 (Str.ofString "spans_above") 5 F_Tide__spans_above [] := fdM_all k_Tide__spans_above w_Tide__spans_above (FunD.bindsN D_Tide__spans_above fun _ _ _ _ _ _ us hl => match us, hl with | [_, _, _, _], _ => rfl) l_Tide n_Tide__spans_above
  have k_Tide__points := fdm_of (E := E) (G := gc K) (m := false) D_Tide__points  sc_Tide__points (by decide) (by decide) (b_Tide__points (E := E) (G := gc K) hG m_list a_Tide__points)
  have c_Tide__points : FdM E (gc K) 3 (Str.ofString "points") 1 F_Tide__points [] := fdM_all k_Tide__points w_Tide__points (FunD.bindsN D_Tide__points fun _ _ _ _ _ _ us hl => match us, hl with | [_], _ => rfl) l_Tide n_Tide__points
  have k_Tide____eq__ := fdm_of (E := E) (G := gc K) (m := false) D_Tide____eq__  sc_Tide____eq__ (by decide) (by decide) (b_Tide____eq__ (E := E) (G := gc K) hG m_isinstance g_Tide i_Tide c_Tide__points)
  have c_Tide____eq__ : FdM E (gc K) 3 (Str.ofString "__eq__") 2 F_Tide____eq__ [] := fdM_all k_Tide____eq__ w_Tide____eq__ (FunD.bindsN D_Tide____eq__ fun _ _ _ _ _ _ us hl => match us, hl with | [_, _], _ => rfl) l_Tide n_Tide____eq__
  have k_is_number := fd_of (E := E) (G := gc K) (m := false) D_is_number g_is_number sc_is_number (by decide) (by decide) (b_is_number (E := E) (G := gc K) hG m_bool m_int m_isinstance)
  have c_is_number : Fd E (gc K) (Str.ofString "is_number") 1 F_is_number [] := fd_dfl k_is_number g_is_number D_is_number.kp (FunD.binds1 (ps := ["value", "least", "most"]) D_is_number 3 2 (List.cons_ne_nil _ _) rfl fun T kV doc pm an cdv ct us its hl hi => match us, its, hl, hi with | [_, _, _], [_, _], _, _ => ⟨_, rfl, rfl⟩) (cst_nil)
  have k_checked_number := fd_of (E := E) (G := gc K) (m := false) D_checked_number g_checked_number sc_checked_number (by decide) (by decide) (b_checked_number (E := E) (G := gc K) hG m_str x_InvalidNumber c_is_number)
  have c_checked_number : Fd E (gc K) (Str.ofString "checked_number") 2 F_checked_number [] := fd_dfl k_checked_number g_checked_number D_checked_number.kp (FunD.binds1 (ps := ["value", "least", "most"]) D_checked_number 3 2 (List.cons_ne_nil _ _) rfl fun T kV doc pm an cdv ct us its hl hi => match us, its, hl, hi with | [_, _, _], [_, _], _, _ => ⟨_, rfl, rfl⟩) (cst_nil)
  have c_checked_number_2 : Fd E (gc K) (Str.ofString "checked_number") 2 F_checked_number [.int 0, .int 1000000] := fd_dfl k_checked_number g_checked_number D_checked_number.kp (FunD.binds1 (ps := ["value", "least", "most"]) D_checked_number 1 0 (List.cons_ne_nil _ _) rfl fun T kV doc pm an cdv ct us its hl hi => match us, its, hl, hi with | [_], [_, _], _, _ => ⟨_, rfl, rfl⟩) (cst_cons (fun _ _ => .int _) (cst_cons (fun _ _ => .int _) (cst_nil)))
  have k_Tide____init__ := fdm_of (E := E) (G := gc K) (m := true) D_Tide____init__  sc_Tide____init__ (by decide) (by decide) (b_Tide____init__ (E := E) (G := gc K) hG m_len g_FARTHEST g_MOST x_InvalidNumber x_TooMany a_Tide__points c_checked_number c_checked_number_2)
  have c_Tide____init__ : FdI E (gc K) (Str.ofString "Tide") 3 3 F_Tide____init__ [] := fdI_all k_Tide____init__ w_Tide____init__ g_Tide (FunD.bindsN D_Tide____init__ fun _ _ _ _ _ _ us hl => match us, hl with | [_, _], _ => rfl)
  have k__first_as_high := fd_of (E := E) (G := gc K) (m := false) D__first_as_high g__first_as_high sc__first_as_high (by decide) (by decide) (b__first_as_high (E := E) (G := gc K) hG c_Tide__height c_Tide__spans_above)
  have c__first_as_high : Fd E (gc K) (Str.ofString "_first_as_high") 6 F__first_as_high [] := fd_all k__first_as_high g__first_as_high D__first_as_high.kp (FunD.bindsN D__first_as_high fun _ _ _ _ _ _ us hl => match us, hl with | [_, _, _], _ => rfl)
  have k_Tide__highest := fdm_of (E := E) (G := gc K) (m := false) D_Tide__highest  sc_Tide__highest (by decide) (by decide) (b_Tide__highest (E := E) (G := gc K) hG a_Tide__points c_Tide__height c__first_as_high)
  have c_Tide__highest : FdM E (gc K) 3 (Str.ofString "highest") 7 F_Tide__highest [] := fdM_all k_Tide__highest w_Tide__highest (FunD.bindsN D_Tide__highest fun _ _ _ _ _ _ us hl => match us, hl with | [_, _, _], _ => rfl) l_Tide n_Tide__highest
  have k_moved := fd_of (E := E) (G := gc K) (m := false) D_moved g_moved sc_moved (by decide) (by decide) (b_moved (E := E) (G := gc K) hG c_Tide____init__ c_Tide__points)
  have c_moved : Fd E (gc K) (Str.ofString "moved") 5 F_moved [] := fd_all k_moved g_moved D_moved.kp (FunD.bindsN D_moved fun _ _ _ _ _ _ us hl => match us, hl with | [_, _, _], _ => rfl)
  have k__spans_where := fd_of (E := E) (G := gc K) (m := false) D__spans_where g__spans_where sc__spans_where (by decide) (by decide) (b__spans_where (E := E) (G := gc K) hG m_range c_Tide__height)
  have c__spans_where : Fd E (gc K) (Str.ofString "_spans_where") 3 F__spans_where [] := fd_all k__spans_where g__spans_where D__spans_where.kp (FunD.bindsN D__spans_where fun _ _ _ _ _ _ us hl => match us, hl with | [_, _, _, _], _ => rfl)
  have k_flood := fd_of (E := E) (G := gc K) (m := false) D_flood g_flood sc_flood (by decide) (by decide) (b_flood (E := E) (G := gc K) hG c__spans_where)
  have c_flood : Fd E (gc K) (Str.ofString "flood") 4 F_flood [] := fd_all k_flood g_flood D_flood.kp (FunD.bindsN D_flood fun _ _ _ _ _ _ us hl => match us, hl with | [_, _, _], _ => rfl)
  have k_ebb := fd_of (E := E) (G := gc K) (m := false) D_ebb g_ebb sc_ebb (by decide) (by decide) (b_ebb (E := E) (G := gc K) hG c__spans_where)
  have c_ebb : Fd E (gc K) (Str.ofString "ebb") 4 F_ebb [] := fd_all k_ebb g_ebb D_ebb.kp (FunD.bindsN D_ebb fun _ _ _ _ _ _ us hl => match us, hl with | [_, _, _], _ => rfl)
  have k_meet_spans := fd_of (E := E) (G := gc K) (m := false) D_meet_spans g_meet_spans sc_meet_spans (by decide) (by decide) (b_meet_spans (E := E) (G := gc K) hG m_max m_min)
  have c_meet_spans : Fd E (gc K) (Str.ofString "meet_spans") 1 F_meet_spans [] := fd_all k_meet_spans g_meet_spans D_meet_spans.kp (FunD.bindsN D_meet_spans fun _ _ _ _ _ _ us hl => match us, hl with | [_, _], _ => rfl)
  have k_turned := fd_of (E := E) (G := gc K) (m := false) D_turned g_turned sc_turned (by decide) (by decide) (b_turned (E := E) (G := gc K) hG m_max m_min)
  have c_turned : Fd E (gc K) (Str.ofString "turned") 1 F_turned [] := fd_all k_turned g_turned D_turned.kp (FunD.bindsN D_turned fun _ _ _ _ _ _ us hl => match us, hl with | [_, _, _], _ => rfl)
  have k_length := fd_of (E := E) (G := gc K) (m := false) D_length g_length sc_length (by decide) (by decide) (b_length (E := E) (G := gc K) hG m_sum)
  have c_length : Fd E (gc K) (Str.ofString "length") 1 F_length [] := fd_all k_length g_length D_length.kp (FunD.bindsN D_length fun _ _ _ _ _ _ us hl => match us, hl with | [_], _ => rfl)
  have k_agreement := fd_of (E := E) (G := gc K) (m := false) D_agreement g_agreement sc_agreement (by decide) (by decide) (b_agreement (E := E) (G := gc K) hG c_Tide__spans_above c_length c_meet_spans c_turned)
  have c_agreement : Fd E (gc K) (Str.ofString "agreement") 6 F_agreement [] := fd_all k_agreement g_agreement D_agreement.kp (FunD.bindsN D_agreement fun _ _ _ _ _ _ us hl => match us, hl with | [_, _, _, _, _], _ => rfl)
  have k_turns_of := fd_of (E := E) (G := gc K) (m := false) D_turns_of g_turns_of sc_turns_of (by decide) (by decide) (b_turns_of (E := E) (G := gc K) hG c_Tide__spans_above)
  have c_turns_of : Fd E (gc K) (Str.ofString "turns_of") 6 F_turns_of [] := fd_all k_turns_of g_turns_of D_turns_of.kp (FunD.bindsN D_turns_of fun _ _ _ _ _ _ us hl => match us, hl with | [_, _, _, _], _ => rfl)
  have k__law_cell := fd_of (E := E) (G := gc K) (m := false) D__law_cell g__law_cell sc__law_cell (by decide) (by decide) (b__law_cell (E := E) (G := gc K) hG m_abs m_int m_len)
  have c__law_cell : Fd E (gc K) (Str.ofString "_law_cell") 1 F__law_cell [] := fd_all k__law_cell g__law_cell D__law_cell.kp (FunD.bindsN D__law_cell fun _ _ _ _ _ _ us hl => match us, hl with | [_, _], _ => rfl)
  have k__law_take := fd_of (E := E) (G := gc K) (m := true) D__law_take g__law_take sc__law_take (by decide) (by decide) (b__law_take (E := E) (G := gc K) hG m_int c__law_cell)
  have c__law_take : Fd E (gc K) (Str.ofString "_law_take") 2 F__law_take [] := fd_all k__law_take g__law_take D__law_take.kp (FunD.bindsN D__law_take fun _ _ _ _ _ _ us hl => match us, hl with | [_, _], _ => rfl)
  have k__law_points := fd_of (E := E) (G := gc K) (m := true) D__law_points g__law_points sc__law_points (by decide) (by decide) (b__law_points (E := E) (G := gc K) hG m_range c__law_take)
  have c__law_points : Fd E (gc K) (Str.ofString "_law_points") 3 F__law_points [] := fd_all k__law_points g__law_points D__law_points.kp (FunD.bindsN D__law_points fun _ _ _ _ _ _ us hl => match us, hl with | [_, _, _], _ => rfl)
  have k__law_height := fd_of (E := E) (G := gc K) (m := false) D__law_height g__law_height sc__law_height (by decide) (by decide) (b__law_height (E := E) (G := gc K) hG m_len m_range)
  have c__law_height : Fd E (gc K) (Str.ofString "_law_height") 1 F__law_height [] := fd_all k__law_height g__law_height D__law_height.kp (FunD.bindsN D__law_height fun _ _ _ _ _ _ us hl => match us, hl with | [_, _], _ => rfl)
  have k__law_of := fd_of (E := E) (G := gc K) (m := false) D__law_of g__law_of sc__law_of (by decide) (by decide) (b__law_of (E := E) (G := gc K) hG m_sorted)
  have c__law_of : Fd E (gc K) (Str.ofString "_law_of") 1 F__law_of [] := fd_all k__law_of g__law_of D__law_of.kp (FunD.bindsN D__law_of fun _ _ _ _ _ _ us hl => match us, hl with | [_], _ => rfl)
  exact fd_of (E := E) (G := gc K) (m := false) D_law g_law sc_law (by decide) (by decide) (b_law (E := E) (G := gc K) hG m_len m_list m_max m_range m_repr m_sorted q_Tide c_Tide____eq__ c_Tide____init__ c_Tide__height c_Tide__highest c_Tide__points c_Tide__spans_above c__law_height c__law_of c__law_points c__law_take c_agreement c_ebb c_flood c_moved c_turns_of)
end K13
open PySem PySem.W PySem.Calls PyProof.Rows
theorem PySem.Challenge.cw_overbar_k13_water_that_is_high_enough_holds : PySem.Challenge.rw_overbar_k13_water_that_is_high_enough.Holds := by
  w_on; o_law
  refine HandSHeadRun.head_any (r := OpenLaw.row PySem.Challenge.rw_overbar_k13_water_that_is_high_enough) (q := view (OpenLaw.row PySem.Challenge.rw_overbar_k13_water_that_is_high_enough).prog [33]) (H := K13.hk) (ob := K13.ob) (M := 6160) (loose := K13.loose) (d := HandSHeadRun.topDef (OpenLaw.row PySem.Challenge.rw_overbar_k13_water_that_is_high_enough).prog 33) (kwd := []) K13.ob_eq
    (by kernel_rfl) (fun s => by kernel_rfl) K13.run (by kernel_rfl) (by kernel_rfl) (by kernel_rfl) (by rfl) (by first | assumption | decide +kernel) (by decide +kernel) ⟨rfl, rfl, rfl, rfl, rfl, by decide +kernel⟩ ?hw ?hc
  case hw => w_witness2
  case hc =>
    refine L2.walk_ofE (l := PySem.Challenge.rw_overbar_k13_water_that_is_high_enough) (n := 63) (k := 8) (x := "script") (CX := L2.CX0) rfl (by decide) (by kernel_rfl) ⟨rfl, by decide, by decide⟩ ?F ?G
    case G => exact fun _ _ _ _ z => z
    case F =>
      intro w mg fa h Y G hmg0
      obtain ⟨K, KX, c⟩ := Y
      have hmg : mg ("law" : PySem.Str) = some (.ref fa) := by
        have e : (HandSHeadRun.topDef (OpenLaw.row PySem.Challenge.rw_overbar_k13_water_that_is_high_enough).prog 33).name = ("law" : PySem.Str) := by kernel_rfl
        rw [← e]
        exact hmg0
      obtain ⟨fd, hb, hF⟩ := K13.facts (P := (PySem.Challenge.rw_overbar_k13_water_that_is_high_enough).prog) (w := w) KX G hmg c
      exact ⟨K, fd, fun vs H Q _ => PD.spF (K13.gc K) K13.F_law vs H Q fun _ _ _ => False, KX, hb, fun H a ns hl _ hS => PD.law_sp hS (K13.law_ok ns hl), fun base h1 h2 => PD.fnOk0 (hF base h1 h2)⟩
