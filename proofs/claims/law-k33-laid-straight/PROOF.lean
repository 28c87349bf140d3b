import PyProof.Rows.All
import Wide.All
import OpenK.AllK
import Wide.FinOn
import KE.GoesEnum
import HandS.ForMost
import HandS.Exc
import HandS.TryOnly
import HandS.ExcInit
import HandS.WordsExc
import HandS.Style
import HandS.TupAny
import HandS.IsInst
import HandS.Walk
import HandS.CallRecv
import HandS.Wide
import HandS.EndBits
import HandS.Flow
import PySem.Challenge.RW_whatnext_k33_whole_laid_is_straight
import HandS.Steps
import PyProof.StrBlock2
section
/-! Plain mathematics of turned books, laid ones and their runs: no program in sight. W: the words. -/
set_option autoImplicit false
set_option linter.all false
namespace Wn

inductive Tm (W : Type) where
  | num (n : Int)
  | nm (x : W)
  | op (less : Bool) (a b : Tm W)

inductive Pt (W : Type) where
  | give (j : W) (s : Tm W)
  | ask (f : W) (ss : List (Tm W)) (j : W)
  | st (tl : Bool) (x : W) (s : Tm W) (T : Pt W)
  | ite (s : Tm W) (T U : Pt W)
  | post (j x : W) (T U : Pt W)

section
variable {W : Type} [DecidableEq W]

def fset {A : Type} (f : W → Option A) (x : W) (v : A) : W → Option A := fun y => if y = x then some v else f y
theorem fset_same {A : Type} {f : W → Option A} {x : W} {v : A} : fset f x v x = some v := if_pos rfl
theorem fset_ne {A : Type} {f : W → Option A} {x y : W} {v : A} (h : y ≠ x) : fset f x v y = f y := if_neg h

def tsz : Tm W → Nat
  | .num _ => 1
  | .nm _ => 1
  | .op _ a b => 1 + tsz a + tsz b
def tszs : List (Tm W) → Nat
  | [] => 0
  | s :: r => tsz s + tszs r

def tdep : Tm W → Nat
  | .num _ => 1
  | .nm _ => 1
  | .op _ a b => 1 + max (tdep a) (tdep b)

/-- every name is among xs -/
def WFt (xs : List W) : Tm W → Prop
  | .num _ => True
  | .nm x => x ∈ xs
  | .op _ a b => WFt xs a ∧ WFt xs b

/-- words and hand-ons are around; asks fit; terms are at most d deep; no post is called home -/
def WFp (hm : W) (hd : W → Option Nat) (d : Nat) : List W → List W → Pt W → Prop
  | xs, js, .give j s => WFt xs s ∧ tdep s ≤ d ∧ j ∈ js
  | xs, js, .ask f ss j => (∀ s ∈ ss, WFt xs s ∧ tdep s ≤ d) ∧ hd f = some ss.length ∧ j ∈ js
  | xs, js, .st _ x s T => WFt xs s ∧ tdep s ≤ d ∧ WFp hm hd d (x :: xs) js T
  | xs, js, .ite s T U => WFt xs s ∧ tdep s ≤ d ∧ WFp hm hd d xs js T ∧ WFp hm hd d xs js U
  | xs, js, .post j x T U => j ≠ hm ∧ WFp hm hd d (x :: xs) js T ∧ WFp hm hd d xs (j :: js) U

theorem WFt.mono {xs ys : List W} (h : ∀ x ∈ xs, x ∈ ys) : ∀ {s : Tm W}, WFt xs s → WFt ys s
  | .num _, _ => trivial
  | .nm x, q => h x q
  | .op _ a b, q => ⟨WFt.mono h q.1, WFt.mono h q.2⟩
theorem sub_cons {xs ys : List W} {x : W} (h : ∀ y ∈ xs, y ∈ ys) : ∀ y ∈ x :: xs, y ∈ x :: ys := fun y hy => by
  rcases List.mem_cons.mp hy with e | e
  · exact List.mem_cons.mpr (.inl e)
  · exact List.mem_cons.mpr (.inr (h y e))
theorem WFp.mono {hm : W} {hd : W → Option Nat} {d : Nat} : ∀ {p : Pt W} {xs ys js ks : List W}, (∀ x ∈ xs, x ∈ ys) → (∀ x ∈ js, x ∈ ks) → WFp hm hd d xs js p → WFp hm hd d ys ks p
  | .give j s, _, _, _, _, h, k, q => ⟨q.1.mono h, q.2.1, k _ q.2.2⟩
  | .ask f ss j, _, _, _, _, h, k, q => ⟨fun s hs => ⟨(q.1 s hs).1.mono h, (q.1 s hs).2⟩, q.2.1, k _ q.2.2⟩
  | .st _ x s T, _, _, _, _, h, k, q => ⟨q.1.mono h, q.2.1, WFp.mono (sub_cons h) k q.2.2⟩
  | .ite s T U, _, _, _, _, h, k, q => ⟨q.1.mono h, q.2.1, WFp.mono h k q.2.2.1, WFp.mono h k q.2.2.2⟩
  | .post j x T U, _, _, _, _, h, k, q => ⟨q.1, WFp.mono (sub_cons h) k q.2.1, WFp.mono h (sub_cons k) q.2.2⟩

/-- the turned parts of a part -/
def cnt : Pt W → Nat
  | .give _ _ => 1
  | .ask _ _ _ => 1
  | .st _ _ _ T => 1 + cnt T
  | .ite _ T U => 1 + cnt T + cnt U
  | .post _ _ T U => 1 + cnt T + cnt U
/-- the parts of a part, simple ones too -/
def csz : Pt W → Nat
  | .give _ s => 1 + tsz s
  | .ask _ ss _ => 1 + tszs ss
  | .st _ _ s T => 1 + tsz s + csz T
  | .ite s T U => 1 + tsz s + csz T + csz U
  | .post _ _ T U => 1 + csz T + csz U
def nst : Pt W → Nat
  | .give _ _ => 1
  | .ask _ _ _ => 1
  | .st _ _ _ T => 1 + nst T
  | .ite _ T U => 1 + max (nst T) (nst U)
  | .post _ _ T U => 1 + max (nst T) (nst U)

/-! ### laying -/
structure Clo (W : Type) where
  x : W
  T : Pt W
  xs : List W
  ws : W → Option W
abbrev HEnv (W : Type) := List (W × Clo W)
def hfind : HEnv W → W → Option (Clo W × HEnv W)
  | [], _ => none
  | (j, c) :: he, k => if k = j then some (c, he) else hfind he k
abbrev SEnv (W : Type) := List (W × Pt W)
def strip (he : HEnv W) : SEnv W := he.map fun p => (p.1, p.2.T)
def sfind : SEnv W → W → Option (Pt W × SEnv W)
  | [], _ => none
  | (j, c) :: he, k => if k = j then some (c, he) else sfind he k
theorem sfind_strip : ∀ (he : HEnv W) (k : W), sfind (strip he) k = (hfind he k).map fun p => (p.1.T, strip p.2)
  | [], _ => rfl
  | (j, c) :: he, k => by
    show (if k = j then some (c.T, strip he) else sfind (strip he) k) = (if k = j then some (c, he) else hfind he k).map _
    by_cases h : k = j
    · rw [if_pos h, if_pos h]; rfl
    · rw [if_neg h, if_neg h]; exact sfind_strip he k

/-- laying goes n deep at most, and finds every word and hand-on; terms are at most d deep, asks have few -/
def LOK (hm : W) (d : Nat) : Nat → Pt W → List W → HEnv W → Prop
  | 0, _, _, _ => False
  | n + 1, .give j s, xs, he => (WFt xs s ∧ tdep s ≤ d) ∧ match hfind he j with
    | none => j = hm
    | some (c, he') => LOK hm d n c.T (c.x :: c.xs) he'
  | n + 1, .ask _ ss j, xs, he => ((∀ s ∈ ss, WFt xs s ∧ tdep s ≤ d) ∧ ss.length ≤ 10) ∧ match hfind he j with
    | none => j = hm
    | some (c, he') => LOK hm d n c.T (c.x :: c.xs) he'
  | n + 1, .st _ x s T, xs, he => (WFt xs s ∧ tdep s ≤ d) ∧ LOK hm d n T (x :: xs) he
  | n + 1, .ite s T U, xs, he => (WFt xs s ∧ tdep s ≤ d) ∧ LOK hm d n T xs he ∧ LOK hm d n U xs he
  | n + 1, .post j x T U, xs, he => ∀ ws, LOK hm d n U xs ((j, ⟨x, T, xs, ws⟩) :: he)
/-- how many parts the laid one has -/
def sz : Nat → Pt W → SEnv W → Nat
  | 0, _, _ => 0
  | n + 1, .give j s, se => 1 + tsz s + match sfind se j with
    | none => 0
    | some (T, se') => sz n T se'
  | n + 1, .ask _ ss j, se => 1 + tszs ss + match sfind se j with
    | none => 0
    | some (T, se') => 1 + sz n T se'
  | n + 1, .st _ _ s T, se => 1 + tsz s + sz n T se
  | n + 1, .ite s T U, se => 1 + tsz s + sz n T se + sz n U se
  | n + 1, .post j _ T U, se => sz n U ((j, T) :: se)

def ren (ws : W → Option W) : Tm W → Tm W
  | .num n => .num n
  | .nm x => .nm ((ws x).getD x)
  | .op l a b => .op l (ren ws a) (ren ws b)

/-- part laid in (xs, ws, he), new words behind k, new hand-ons behind p -/
inductive LayR (hm : W) (wd : Nat → W) (used : List W) : Pt W → List W → (W → Option W) → HEnv W → Nat → Nat → Pt W → Nat → Nat → Prop
  | give0 {j s xs ws he k p} : hfind he j = none → LayR hm wd used (.give j s) xs ws he k p (.give hm (ren ws s)) k p
  | give1 {j s xs ws he k p c he' i L k' p'} : hfind he j = some (c, he') → k ≤ i → wd i ∉ used → LayR hm wd used c.T (c.x :: c.xs) (fset c.ws c.x (wd i)) he' (i + 1) p L k' p' →
      LayR hm wd used (.give j s) xs ws he k p (.st false (wd i) (ren ws s) L) k' p'
  | ask0 {f ss j xs ws he k p} : hfind he j = none → LayR hm wd used (.ask f ss j) xs ws he k p (.ask f (ss.map (ren ws)) hm) k p
  | ask1 {f ss j xs ws he k p c he' i L k' p'} : hfind he j = some (c, he') → k ≤ i → wd i ∉ used → LayR hm wd used c.T (c.x :: c.xs) (fset c.ws c.x (wd i)) he' (i + 1) (p + 1) L k' p' →
      LayR hm wd used (.ask f ss j) xs ws he k p (.post (wd p) (wd i) L (.ask f (ss.map (ren ws)) (wd p))) k' p'
  | st {tl x s T xs ws he k p i L k' p'} : k ≤ i → wd i ∉ used → LayR hm wd used T (x :: xs) (fset ws x (wd i)) he (i + 1) p L k' p' →
      LayR hm wd used (.st tl x s T) xs ws he k p (.st tl (wd i) (ren ws s) L) k' p'
  | ite {s T U xs ws he k p L1 k1 p1 L2 k2 p2} : LayR hm wd used T xs ws he k p L1 k1 p1 → LayR hm wd used U xs ws he k1 p1 L2 k2 p2 →
      LayR hm wd used (.ite s T U) xs ws he k p (.ite (ren ws s) L1 L2) k2 p2
  | post {j x T U xs ws he k p L k' p'} : LayR hm wd used U xs ws ((j, ⟨x, T, xs, ws⟩) :: he) k p L k' p' → LayR hm wd used (.post j x T U) xs ws he k p L k' p'

/-- each give and ask hands home, each post is at an ask -/
inductive Laid (hm : W) : Pt W → Prop
  | give {s} : Laid hm (.give hm s)
  | ask {f ss} : Laid hm (.ask f ss hm)
  | st {tl x s T} : Laid hm T → Laid hm (.st tl x s T)
  | ite {s T U} : Laid hm T → Laid hm U → Laid hm (.ite s T U)
  | post {j x T f ss} : Laid hm T → Laid hm (.post j x T (.ask f ss j))
/-- each give and ask goes to the hand-on that is due -/
def Strt : W → Pt W → Prop
  | due, .give j _ => j = due
  | due, .ask _ _ j => j = due
  | due, .st _ _ _ T => Strt due T
  | due, .ite _ T U => Strt due T ∧ Strt due U
  | due, .post j _ T U => Strt due T ∧ Strt j U
variable {hm : W} {wd : Nat → W} {used : List W} {d : Nat}
theorem Laid.strt {p : Pt W} (h : Laid hm p) : Strt hm p := by
  induction h with
  | give => rfl
  | ask => rfl
  | st _ ih => exact ih
  | ite _ _ i1 i2 => exact ⟨i1, i2⟩
  | post _ ih => exact ⟨ih, rfl⟩
theorem LayR.laid {P L : Pt W} {xs ws he k p k' p'} (h : LayR hm wd used P xs ws he k p L k' p') : Laid hm L := by
  induction h with
  | give0 _ => exact .give
  | give1 _ _ _ _ ih => exact .st ih
  | ask0 _ => exact .ask
  | ask1 _ _ _ _ ih => exact .post ih
  | st _ _ _ ih => exact .st ih
  | ite _ _ i1 i2 => exact .ite i1 i2
  | post _ ih => exact ih
theorem tsz_ren (ws : W → Option W) : ∀ s : Tm W, tsz (ren ws s) = tsz s
  | .num _ => rfl
  | .nm _ => rfl
  | .op _ a b => by
    show 1 + tsz (ren ws a) + tsz (ren ws b) = 1 + tsz a + tsz b
    rw [tsz_ren ws a, tsz_ren ws b]
theorem tszs_ren (ws : W → Option W) : ∀ ss : List (Tm W), tszs (ss.map (ren ws)) = tszs ss
  | [] => rfl
  | s :: r => by
    show tsz (ren ws s) + tszs (r.map (ren ws)) = tsz s + tszs r
    rw [tsz_ren, tszs_ren ws r]
theorem tdep_ren (ws : W → Option W) : ∀ s : Tm W, tdep (ren ws s) = tdep s
  | .num _ => rfl
  | .nm _ => rfl
  | .op _ a b => by
    show 1 + max (tdep (ren ws a)) (tdep (ren ws b)) = 1 + max (tdep a) (tdep b)
    rw [tdep_ren ws a, tdep_ren ws b]
theorem LayR.mono {P L : Pt W} {xs ws he k p k' p'} (h : LayR hm wd used P xs ws he k p L k' p') : k ≤ k' ∧ p ≤ p' := by
  induction h with
  | give0 _ => exact ⟨Nat.le_refl _, Nat.le_refl _⟩
  | give1 _ hk _ _ ih => exact ⟨by omega, ih.2⟩
  | ask0 _ => exact ⟨Nat.le_refl _, Nat.le_refl _⟩
  | ask1 _ hk _ _ ih => exact ⟨by omega, by omega⟩
  | st hk _ _ ih => exact ⟨by omega, ih.2⟩
  | ite _ _ i1 i2 => exact ⟨by omega, by omega⟩
  | post _ ih => exact ih
theorem LayR.count {P L : Pt W} {xs ws he k p k' p'} (h : LayR hm wd used P xs ws he k p L k' p') : ∀ n, LOK hm d n P xs he → csz L = sz n P (strip he) := by
  induction h with
  | @give0 j s xs ws he k p e =>
    intro n q
    cases n with
    | zero => exact q.elim
    | succ n =>
      have es : sfind (strip he) j = none := by rw [sfind_strip, e]; rfl
      simp only [csz, sz, es, tsz_ren, Nat.add_zero]
  | @give1 j s xs ws he k p c he' i L k' p' e hk hu _ ih =>
    intro n q
    cases n with
    | zero => exact q.elim
    | succ n =>
      have es : sfind (strip he) j = some (c.T, strip he') := by rw [sfind_strip, e]; rfl
      have q2 := q.2
      rw [e] at q2
      simp only [csz, sz, es, tsz_ren, ih n q2]
  | @ask0 f ss j xs ws he k p e =>
    intro n q
    cases n with
    | zero => exact q.elim
    | succ n =>
      have es : sfind (strip he) j = none := by rw [sfind_strip, e]; rfl
      simp only [csz, sz, es, tszs_ren, Nat.add_zero]
  | @ask1 f ss j xs ws he k p c he' i L k' p' e hk hu _ ih =>
    intro n q
    cases n with
    | zero => exact q.elim
    | succ n =>
      have es : sfind (strip he) j = some (c.T, strip he') := by rw [sfind_strip, e]; rfl
      have q2 := q.2
      rw [e] at q2
      have e1 : sz (n + 1) (.ask f ss j) (strip he) = 1 + tszs ss + (1 + sz n c.T (strip he')) := by simp only [sz, es]
      have e2 : csz (.post (wd p) (wd i) L (.ask f (ss.map (ren ws)) (wd p))) = 1 + csz L + (1 + tszs ss) := by simp only [csz, tszs_ren]
      rw [e1, e2, ih n q2]
      omega
  | st hk hu _ ih =>
    intro n q
    cases n with
    | zero => exact q.elim
    | succ n => simp only [csz, sz, tsz_ren, ih n q.2]
  | ite _ _ i1 i2 =>
    intro n q
    cases n with
    | zero => exact q.elim
    | succ n => simp only [csz, sz, tsz_ren, i1 n q.2.1, i2 n q.2.2]
  | post _ ih =>
    intro n q
    cases n with
    | zero => exact q.elim
    | succ n => exact ih n (q _)
theorem LayR.nest {P L : Pt W} {xs ws he k p k' p'} (h : LayR hm wd used P xs ws he k p L k' p') : ∀ n, LOK hm d n P xs he → nst L ≤ n := by
  induction h with
  | give0 e =>
    intro n q
    cases n with
    | zero => exact q.elim
    | succ n => simp only [nst]; omega
  | give1 e hk hu _ ih =>
    intro n q
    cases n with
    | zero => exact q.elim
    | succ n =>
      have q2 := q.2
      rw [e] at q2
      have := ih n q2
      simp only [nst]; omega
  | ask0 e =>
    intro n q
    cases n with
    | zero => exact q.elim
    | succ n => simp only [nst]; omega
  | ask1 e hk hu _ ih =>
    intro n q
    cases n with
    | zero => exact q.elim
    | succ n =>
      have q2 := q.2
      rw [e] at q2
      have := ih n q2
      have n1 : 1 ≤ n := by
        cases n with
        | zero => exact q2.elim
        | succ n => omega
      simp only [nst]; omega
  | st hk hu _ ih =>
    intro n q
    cases n with
    | zero => exact q.elim
    | succ n => have := ih n q.2; simp only [nst]; omega
  | ite _ _ i1 i2 =>
    intro n q
    cases n with
    | zero => exact q.elim
    | succ n => have := i1 n q.2.1; have := i2 n q.2.2; simp only [nst]; omega
  | post _ ih =>
    intro n q
    cases n with
    | zero => exact q.elim
    | succ n => have := ih n (q _); omega
theorem sz_laid {p : Pt W} (h : Laid hm p) : ∀ n xs, LOK hm d n p xs [] → sz n p [] = csz p := by
  induction h with
  | give =>
    intro n xs q
    cases n with
    | zero => exact q.elim
    | succ n => simp [csz, sz, sfind]
  | ask =>
    intro n xs q
    cases n with
    | zero => exact q.elim
    | succ n => simp [csz, sz, sfind]
  | st _ ih =>
    intro n xs q
    cases n with
    | zero => exact q.elim
    | succ n => simp only [csz, sz, ih n _ q.2]
  | ite _ _ i1 i2 =>
    intro n xs q
    cases n with
    | zero => exact q.elim
    | succ n => simp only [csz, sz, i1 n _ q.2.1, i2 n _ q.2.2]
  | @post j x T f ss _ ih =>
    intro n xs q
    cases n with
    | zero => exact q.elim
    | succ n =>
      have q1 := q (fun _ => none)
      cases n with
      | zero => exact q1.elim
      | succ n =>
        have e : hfind ([(j, ⟨x, T, xs, fun _ => none⟩)] : HEnv W) j = some (⟨x, T, xs, fun _ => none⟩, []) := by simp [hfind]
        have q2 := q1.2
        rw [e] at q2
        have es : sfind ([(j, T)] : SEnv W) j = some (T, []) := by simp [sfind]
        have e1 : sz (n + 1 + 1) (.post j x T (.ask f ss j)) [] = 1 + tszs ss + (1 + sz n T []) := by simp only [sz, es]
        have e2 : csz (.post j x T (.ask f ss j)) = 1 + csz T + (1 + tszs ss) := by simp only [csz]
        rw [e1, e2, ih n _ q2]
        omega
end
end Wn
end
section
set_option autoImplicit false
set_option linter.all false
namespace Wn
section
variable {W : Type} [DecidableEq W] {hm : W} {wd : Nat → W} {used : List W} {hd : W → Option Nat} {d : Nat}

/-! ### closures that are right -/
def HWF (hm : W) (hd : W → Option Nat) (d : Nat) : List W → HEnv W → Prop
  | js, [] => ∀ j ∈ js, j = hm
  | js, (j, c) :: he => ∃ js1, (∀ i ∈ js, i = j ∨ i ∈ js1) ∧ WFp hm hd d (c.x :: c.xs) js1 c.T ∧ HWF hm hd d js1 he
def pot : HEnv W → Nat
  | [] => 0
  | (_, c) :: he => cnt c.T + pot he
theorem hfind_wf : ∀ {he : HEnv W} {js : List W} {j : W}, HWF hm hd d js he → j ∈ js →
    (hfind he j = none ∧ j = hm) ∨ ∃ c he' js', hfind he j = some (c, he') ∧ WFp hm hd d (c.x :: c.xs) js' c.T ∧ HWF hm hd d js' he' ∧ cnt c.T + pot he' ≤ pot he
  | [], js, j, h, hj => .inl ⟨rfl, h j hj⟩
  | (i, c) :: he, js, j, h, hj => by
    obtain ⟨js1, h1, h2, h3⟩ := h
    by_cases e : j = i
    · refine .inr ⟨c, he, js1, if_pos e, h2, h3, Nat.le_refl _⟩
    · have hj1 : j ∈ js1 := (h1 j hj).resolve_left e
      rcases hfind_wf h3 hj1 with ⟨a, b⟩ | ⟨c', he', js', a, b, q, l⟩
      · exact .inl ⟨(if_neg e).trans a, b⟩
      · refine .inr ⟨c', he', js', (if_neg e).trans a, b, q, ?_⟩
        show _ ≤ cnt c.T + pot he
        omega
theorem lok_of (ar : ∀ f n, hd f = some n → n ≤ 10) : ∀ (n : Nat) {P : Pt W} {xs js : List W} {he : HEnv W}, WFp hm hd d xs js P → HWF hm hd d js he → cnt P + pot he ≤ n → LOK hm d n P xs he
  | 0, P, _, _, _, _, _, l => by cases P <;> simp only [cnt] at l <;> omega
  | n + 1, .give j s, xs, js, he, w, q, l => by
    refine ⟨⟨w.1, w.2.1⟩, ?_⟩
    rcases hfind_wf q w.2.2 with ⟨a, b⟩ | ⟨c', he', js', a, b, q', l'⟩
    · rw [a]; exact b
    · rw [a]; exact lok_of ar n b q' (by simp only [cnt] at l; omega)
  | n + 1, .ask f ss j, xs, js, he, w, q, l => by
    refine ⟨⟨w.1, ar _ _ w.2.1⟩, ?_⟩
    rcases hfind_wf q w.2.2 with ⟨a, b⟩ | ⟨c', he', js', a, b, q', l'⟩
    · rw [a]; exact b
    · rw [a]; exact lok_of ar n b q' (by simp only [cnt] at l; omega)
  | n + 1, .st tl x s T, xs, js, he, w, q, l => ⟨⟨w.1, w.2.1⟩, lok_of ar n w.2.2 q (by simp only [cnt] at l; omega)⟩
  | n + 1, .ite s T U, xs, js, he, w, q, l => ⟨⟨w.1, w.2.1⟩, lok_of ar n w.2.2.1 q (by simp only [cnt] at l; omega), lok_of ar n w.2.2.2 q (by simp only [cnt] at l; omega)⟩
  | n + 1, .post j x T U, xs, js, he, w, q, l => fun ws => by
    refine lok_of ar n (js := j :: js) w.2.2 ⟨js, fun i hi => List.mem_cons.mp hi, w.2.1, q⟩ ?_
    simp only [cnt] at l
    simp only [pot]
    omega
theorem LOK.mono : ∀ {n m : Nat} {P : Pt W} {xs : List W} {he : HEnv W}, LOK hm d n P xs he → n ≤ m → LOK hm d m P xs he
  | 0, _, _, _, _, q, _ => q.elim
  | n + 1, 0, _, _, _, _, l => by omega
  | n + 1, m + 1, .give j s, xs, he, q, l => by
    refine ⟨q.1, ?_⟩
    have q2 := q.2
    cases e : hfind he j with
    | none => rw [e] at q2; exact q2
    | some p => rw [e] at q2; exact LOK.mono q2 (by omega)
  | n + 1, m + 1, .ask f ss j, xs, he, q, l => by
    refine ⟨q.1, ?_⟩
    have q2 := q.2
    cases e : hfind he j with
    | none => rw [e] at q2; exact q2
    | some p => rw [e] at q2; exact LOK.mono q2 (by omega)
  | n + 1, m + 1, .st tl x s T, xs, he, q, l => ⟨q.1, q.2.mono (by omega)⟩
  | n + 1, m + 1, .ite s T U, xs, he, q, l => ⟨q.1, q.2.1.mono (by omega), q.2.2.mono (by omega)⟩
  | n + 1, m + 1, .post j x T U, xs, he, q, l => fun ws => (q ws).mono (by omega)
theorem nst_pos : ∀ P : Pt W, 1 ≤ nst P
  | .give _ _ => Nat.le_refl _
  | .ask _ _ _ => Nat.le_refl _
  | .st _ _ _ _ => by simp only [nst]; omega
  | .ite _ _ _ => by simp only [nst]; omega
  | .post _ _ _ _ => by simp only [nst]; omega
/-- a laid one is laid again n deep -/
theorem lok_laid (ar : ∀ f n, hd f = some n → n ≤ 10) {P : Pt W} (h : Laid hm P) : ∀ n xs, WFp hm hd d xs [hm] P → 2 * nst P ≤ n → LOK hm d n P xs [] := by
  induction h with
  | give =>
    intro n xs w l
    cases n with
    | zero => simp only [nst] at l; omega
    | succ n => exact ⟨⟨w.1, w.2.1⟩, rfl⟩
  | ask =>
    intro n xs w l
    cases n with
    | zero => simp only [nst] at l; omega
    | succ n => exact ⟨⟨w.1, ar _ _ w.2.1⟩, rfl⟩
  | st _ ih =>
    intro n xs w l
    cases n with
    | zero => simp only [nst] at l; omega
    | succ n => exact ⟨⟨w.1, w.2.1⟩, ih n _ w.2.2 (by simp only [nst] at l; omega)⟩
  | ite _ _ i1 i2 =>
    intro n xs w l
    cases n with
    | zero => simp only [nst] at l; omega
    | succ n => exact ⟨⟨w.1, w.2.1⟩, i1 n _ w.2.2.1 (by simp only [nst] at l; omega), i2 n _ w.2.2.2 (by simp only [nst] at l; omega)⟩
  | @post j x T f ss _ ih =>
    intro n xs w l
    cases n with
    | zero => simp only [nst] at l; omega
    | succ n =>
      intro ws
      cases n with
      | zero => simp only [nst] at l; omega
      | succ n =>
        refine ⟨⟨w.2.2.1, ar _ _ w.2.2.2.1⟩, ?_⟩
        have e : hfind ([(j, ⟨x, T, xs, ws⟩)] : HEnv W) j = some (⟨x, T, xs, ws⟩, []) := by simp [hfind]
        rw [e]
        exact ih n _ w.2.1 (by simp only [nst] at l; omega)

/-! ### the laid one is right -/
def Cov (xs : List W) (ws : W → Option W) (ys : List W) : Prop := ∀ x ∈ xs, ∃ w, ws x = some w ∧ w ∈ ys
def HCov (ys : List W) : HEnv W → Prop
  | [] => True
  | (_, c) :: he => Cov c.xs c.ws ys ∧ HCov ys he
theorem Cov.mono {xs ys zs : List W} {ws : W → Option W} (h : Cov xs ws ys) (s : ∀ y ∈ ys, y ∈ zs) : Cov xs ws zs := fun x hx =>
  let ⟨w, a, b⟩ := h x hx
  ⟨w, a, s w b⟩
theorem Cov.cons {xs ys : List W} {ws : W → Option W} (h : Cov xs ws ys) (x v : W) : Cov (x :: xs) (fset ws x v) (v :: ys) := fun y hy => by
  by_cases e : y = x
  · exact ⟨v, by rw [e]; exact fset_same, List.mem_cons_self⟩
  · obtain ⟨w, a, b⟩ := h y ((List.mem_cons.mp hy).resolve_left e)
    exact ⟨w, by rw [fset_ne e]; exact a, List.mem_cons_of_mem _ b⟩
theorem HCov.mono {ys zs : List W} (s : ∀ y ∈ ys, y ∈ zs) : ∀ {he : HEnv W}, HCov ys he → HCov zs he
  | [], _ => trivial
  | _ :: _, h => ⟨h.1.mono s, h.2.mono s⟩
theorem hfind_cov {ys : List W} : ∀ {he : HEnv W} {j : W} {c : Clo W} {he' : HEnv W}, HCov ys he → hfind he j = some (c, he') → Cov c.xs c.ws ys ∧ HCov ys he'
  | [], _, _, _, _, e => by cases e
  | (i, b) :: he, j, c, he', h, e => by
    by_cases q : j = i
    · have e' : some (b, he) = some (c, he') := (if_pos q).symm.trans e
      cases e'
      exact h
    · exact hfind_cov h.2 ((if_neg q).symm.trans e)
theorem wft_ren {xs ys : List W} {ws : W → Option W} (h : Cov xs ws ys) : ∀ {s : Tm W}, WFt xs s → WFt ys (ren ws s)
  | .num _, _ => trivial
  | .nm x, q => by
    obtain ⟨w, a, b⟩ := h x q
    show (ws x).getD x ∈ ys
    rw [a]; exact b
  | .op _ a b, q => ⟨wft_ren h q.1, wft_ren h q.2⟩
theorem LayR.wf (hwd : ∀ i, wd i ≠ hm) {P L : Pt W} {xs ws he k p k' p'} (h : LayR hm wd used P xs ws he k p L k' p') :
    ∀ js ys, WFp hm hd d xs js P → HWF hm hd d js he → Cov xs ws ys → HCov ys he → WFp hm hd d ys [hm] L := by
  have cs : ∀ (v : W) (ys : List W), ∀ y ∈ ys, y ∈ v :: ys := fun v ys y hy => List.mem_cons_of_mem _ hy
  induction h with
  | give0 e =>
    intro js ys w q c hc
    exact ⟨wft_ren c w.1, by rw [tdep_ren]; exact w.2.1, List.mem_cons_self⟩
  | @give1 j s xs ws he k p cl he' i L k' p' e hk hu _ ih =>
    intro js ys w q c hc
    rcases hfind_wf q w.2.2 with ⟨a, b⟩ | ⟨c', he'', js', a, b, q', l'⟩
    · rw [e] at a; cases a
    · rw [e] at a; cases a
      obtain ⟨c1, c2⟩ := hfind_cov hc e
      exact ⟨wft_ren c w.1, by rw [tdep_ren]; exact w.2.1, ih js' _ b q' (c1.cons _ _) (c2.mono (cs _ _))⟩
  | @ask0 f ss j xs ws he k p e =>
    intro js ys w q c hc
    refine ⟨fun s hs => ?_, ?_, List.mem_cons_self⟩
    · obtain ⟨s0, h0, rfl⟩ := List.mem_map.mp hs
      exact ⟨wft_ren c (w.1 s0 h0).1, by rw [tdep_ren]; exact (w.1 s0 h0).2⟩
    · rw [List.length_map]; exact w.2.1
  | @ask1 f ss j xs ws he k p cl he' i L k' p' e hk hu _ ih =>
    intro js ys w q c hc
    rcases hfind_wf q w.2.2 with ⟨a, b⟩ | ⟨c', he'', js', a, b, q', l'⟩
    · rw [e] at a; cases a
    · rw [e] at a; cases a
      obtain ⟨c1, c2⟩ := hfind_cov hc e
      refine ⟨hwd p, ih js' _ b q' (c1.cons _ _) (c2.mono (cs _ _)), fun s hs => ?_, ?_, List.mem_cons_self⟩
      · obtain ⟨s0, h0, rfl⟩ := List.mem_map.mp hs
        exact ⟨wft_ren c (w.1 s0 h0).1, by rw [tdep_ren]; exact (w.1 s0 h0).2⟩
      · rw [List.length_map]; exact w.2.1
  | st hk hu _ ih =>
    intro js ys w q c hc
    exact ⟨wft_ren c w.1, by rw [tdep_ren]; exact w.2.1, ih js _ w.2.2 q (c.cons _ _) (hc.mono (cs _ _))⟩
  | ite _ _ i1 i2 =>
    intro js ys w q c hc
    exact ⟨wft_ren c w.1, by rw [tdep_ren]; exact w.2.1, i1 js ys w.2.2.1 q c hc, i2 js ys w.2.2.2 q c hc⟩
  | @post j x T U xs ws he k p L k' p' _ ih =>
    intro js ys w q c hc
    exact ih (j :: js) ys w.2.2 ⟨js, fun i hi => List.mem_cons.mp hi, w.2.1, q⟩ c ⟨c, hc⟩

/-! ### shapes -/
inductive Sh (W : Type) where
  | give (j : Option Nat) (s : Tm Nat)
  | ask (f : W) (ss : List (Tm Nat)) (j : Option Nat)
  | st (tl : Bool) (x : Nat) (s : Tm Nat) (T : Sh W)
  | ite (s : Tm Nat) (T U : Sh W)
  | post (j x : Nat) (T U : Sh W)
def rnum (r : W → Option Nat) : Tm W → Tm Nat
  | .num n => .num n
  | .nm x => .nm ((r x).getD 0)
  | .op l a b => .op l (rnum r a) (rnum r b)
def shp : Pt W → (W → Option Nat) → (W → Option (Option Nat)) → Nat → Nat → Sh W × Nat × Nat
  | .give j s, r, h, a, b => (.give ((h j).getD none) (rnum r s), a, b)
  | .ask f ss j, r, h, a, b => (.ask f (ss.map (rnum r)) ((h j).getD none), a, b)
  | .ite s T U, r, h, a, b =>
    let t := shp T r h a b
    let u := shp U r h t.2.1 t.2.2
    (.ite (rnum r s) t.1 u.1, u.2.1, u.2.2)
  | .st tl x s T, r, h, a, b =>
    let t := shp T (fset r x a) h (a + 1) b
    (.st tl a (rnum r s) t.1, t.2.1, t.2.2)
  | .post j x T U, r, h, a, b =>
    let t := shp T (fset r x a) h (a + 1) (b + 1)
    let u := shp U r (fset h j b) t.2.1 t.2.2
    (.post b a t.1 u.1, u.2.1, u.2.2)
def Old (wd : Nat → W) (used : List W) (k : Nat) (w : W) : Prop := w ∈ used ∨ ∃ i, i < k ∧ w = wd i
theorem Old.ne {k i : Nat} {w : W} (inj : ∀ a b, wd a = wd b → a = b) (h : Old wd used k w) (hk : k ≤ i) (hu : wd i ∉ used) : w ≠ wd i := fun e => by
  rcases h with h | ⟨a, l, q⟩
  · rw [e] at h; exact hu h
  · have := inj i a (e.symm.trans q)
    omega
theorem Old.mono {k i : Nat} {w : W} (h : Old wd used k w) (l : k ≤ i) : Old wd used i w := by
  rcases h with h | ⟨a, b, q⟩
  · exact .inl h
  · exact .inr ⟨a, by omega, q⟩
def Link (wd : Nat → W) (used : List W) (k : Nat) (xs : List W) (ws : W → Option W) (r1 r2 : W → Option Nat) : Prop := ∀ x ∈ xs, ∃ w, ws x = some w ∧ Old wd used k w ∧ r2 w = r1 x
theorem Link.mono {k i : Nat} {xs : List W} {ws : W → Option W} {r1 r2 : W → Option Nat} (h : Link wd used k xs ws r1 r2) (l : k ≤ i) : Link wd used i xs ws r1 r2 := fun x hx =>
  let ⟨w, a, b, c⟩ := h x hx
  ⟨w, a, b.mono l, c⟩
theorem Link.cons {k i a : Nat} {xs : List W} {ws : W → Option W} {r1 r2 : W → Option Nat} (inj : ∀ a b, wd a = wd b → a = b) (h : Link wd used k xs ws r1 r2) (hk : k ≤ i) (hu : wd i ∉ used) (x : W) :
    Link wd used (i + 1) (x :: xs) (fset ws x (wd i)) (fset r1 x a) (fset r2 (wd i) a) := fun y hy => by
  by_cases e : y = x
  · refine ⟨wd i, by rw [e]; exact fset_same, .inr ⟨i, by omega, rfl⟩, ?_⟩
    rw [e, fset_same, fset_same]
  · obtain ⟨w, q1, q2, q3⟩ := h y ((List.mem_cons.mp hy).resolve_left e)
    refine ⟨w, by rw [fset_ne e]; exact q1, q2.mono (by omega), ?_⟩
    rw [fset_ne e, fset_ne (q2.ne inj hk hu)]
    exact q3
theorem rnum_ren {k : Nat} {xs : List W} {ws : W → Option W} {r1 r2 : W → Option Nat} (h : Link wd used k xs ws r1 r2) : ∀ {s : Tm W}, WFt xs s → rnum r2 (ren ws s) = rnum r1 s
  | .num _, _ => rfl
  | .nm x, q => by
    obtain ⟨w, a, _, c⟩ := h x q
    show Tm.nm ((r2 ((ws x).getD x)).getD 0) = Tm.nm ((r1 x).getD 0)
    rw [a]
    show Tm.nm ((r2 w).getD 0) = _
    rw [c]
  | .op l a b, q => by
    show Tm.op l (rnum r2 (ren ws a)) (rnum r2 (ren ws b)) = Tm.op l (rnum r1 a) (rnum r1 b)
    rw [rnum_ren h q.1, rnum_ren h q.2]
theorem rnums_ren {k : Nat} {xs : List W} {ws : W → Option W} {r1 r2 : W → Option Nat} (h : Link wd used k xs ws r1 r2) {ss : List (Tm W)} (q : ∀ s ∈ ss, WFt xs s) : (ss.map (ren ws)).map (rnum r2) = ss.map (rnum r1) := by
  rw [List.map_map]
  exact List.map_congr_left fun s hs => rnum_ren h (q s hs)
theorem shape_eq (inj : ∀ a b, wd a = wd b → a = b) {P : Pt W} (h : Laid hm P) : ∀ xs js ws k p L k' p' r1 r2 (h1 h2 : W → Option (Option Nat)) a b,
    LayR hm wd used P xs ws [] k p L k' p' → WFp hm hd d xs js P → Link wd used k xs ws r1 r2 → h1 hm = h2 hm → shp L r2 h2 a b = shp P r1 h1 a b := by
  induction h with
  | give =>
    intro xs js ws k p L k' p' r1 r2 h1 h2 a b q w l e
    cases q with
    | give0 _ => simp only [shp, rnum_ren l w.1, e]
    | give1 z => cases z
  | ask =>
    intro xs js ws k p L k' p' r1 r2 h1 h2 a b q w l e
    cases q with
    | ask0 _ => simp only [shp, rnums_ren l (fun s hs => (w.1 s hs).1), e]
    | ask1 z => cases z
  | st _ ih =>
    intro xs js ws k p L k' p' r1 r2 h1 h2 a b q w l e
    cases q with
    | st hk hu q =>
      have z := ih _ js _ _ _ _ _ _ _ _ h1 h2 (a + 1) b q w.2.2 (l.cons (a := a) inj hk hu _) e
      simp only [shp, z, rnum_ren l w.1]
  | @ite s T U _ _ i1 i2 =>
    intro xs js ws k p L k' p' r1 r2 h1 h2 a b q w l e
    cases q with
    | ite q1 q2 =>
      have z1 := i1 _ js _ _ _ _ _ _ _ _ h1 h2 a b q1 w.2.2.1 l e
      have z2 := i2 _ js _ _ _ _ _ _ _ _ h1 h2 (shp T r1 h1 a b).2.1 (shp T r1 h1 a b).2.2 q2 w.2.2.2 (l.mono q1.mono.1) e
      simp only [shp, z1, z2, rnum_ren l w.1]
  | @post j x T f ss _ ih =>
    intro xs js ws k p L k' p' r1 r2 h1 h2 a b q w l e
    cases q with
    | post q =>
      cases q with
      | ask0 z => exact absurd z (by simp [hfind])
      | ask1 z hk hu q =>
        have z' := z
        simp only [hfind, if_true] at z'
        cases z'
        have y := ih _ js _ _ _ _ _ _ _ _ h1 h2 (a + 1) (b + 1) q w.2.1 (l.cons (a := a) inj hk hu _) e
        simp only [shp, y, rnums_ren l (fun s hs => (w.2.2.1 s hs).1), fset_same]
end
end Wn
end
section
set_option autoImplicit false
set_option linter.all false
namespace Wn
/-! ### runs -/
inductive Ev (W : Type) where
  | ask (f : W) (ns : List Int)
  | tell (n : Int)
inductive En where
  | done (n : Int)
  | long
structure Res (W : Type) where
  tr : List (Ev W)
  en : En
  dp : Nat
mutual
inductive DH (W : Type) where
  | fin
  | clo (x : W) (T : Pt W) (nm : W → Option Int) (e : DE W)
inductive DE (W : Type) where
  | home (h : DH W)
  | push (j x : W) (T : Pt W) (nm : W → Option Int) (e : DE W)
end
mutual
def htH {W : Type} : DH W → Nat
  | .fin => 0
  | .clo _ _ _ e => htE e + 1
def htE {W : Type} : DE W → Nat
  | .home h => htH h
  | .push _ _ _ _ e => htE e
end
inductive Gs (W : Type) where
  | give (n : Int) (h : DH W)
  | ask (f : W) (ns : List Int) (h : DH W)
/-- a term of a book -/
inductive B (W : Type) where
  | num (n : Int)
  | nm (x : W)
  | op (less : Bool) (a b : B W)
  | tell (a : B W)
  | lt (x : W) (a b : B W)
  | ite (a b c : B W)
  | ask (f : W) (as : List (B W))
section
variable {W : Type} [DecidableEq W]
def dfind (hm : W) : DE W → W → Option (DH W)
  | .home h, k => if k = hm then some h else none
  | .push j x T nm e, k => if k = j then some (.clo x T nm e) else dfind hm e k
def opv (less : Bool) (m n : Int) : Int := (if less then m - n else m + n) % 1000
def tev (r : W → Option Int) : Tm W → Option Int
  | .num n => some n
  | .nm x => r x
  | .op l a b => match tev r a with
    | none => none
    | some m => match tev r b with
      | none => none
      | some n => some (opv l m n)
def tevs (r : W → Option Int) : List (Tm W) → Option (List Int)
  | [] => some []
  | s :: ss => match tev r s with
    | none => none
    | some n => match tevs r ss with
      | none => none
      | some ns => some (n :: ns)
def along (hm : W) : Pt W → (W → Option Int) → DE W → Option (List (Ev W) × Gs W)
  | .give j s, r, e => match tev r s, dfind hm e j with
    | some n, some h => some ([], .give n h)
    | _, _ => none
  | .ask f ss j, r, e => match tevs r ss, dfind hm e j with
    | some ns, some h => some ([], .ask f ns h)
    | _, _ => none
  | .st tl x s T, r, e => match tev r s with
    | none => none
    | some n => match along hm T (fset r x n) e with
      | none => none
      | some (es, g) => some (if tl then (.tell n :: es, g) else (es, g))
  | .ite s T U, r, e => match tev r s with
    | none => none
    | some n => if n = 0 then along hm U r e else along hm T r e
  | .post j x T U, r, e => if j = hm then none else along hm U r (.push j x T r e)
def bindF (r : W → Option Int) : List W → List Int → (W → Option Int)
  | x :: xs, n :: ns => bindF (fset r x n) xs ns
  | _, _ => r
def bind0 (xs : List W) (ns : List Int) : W → Option Int := bindF (fun _ => none) xs ns

inductive Run1 (hm : W) (bk : W → Option (List W × Pt W)) (most : Nat) : Nat → Gs W → List (Ev W) → Nat → Nat → Res W → Prop
  | fin {n tr dp many} : Run1 hm bk most 0 (.give n .fin) tr dp many ⟨tr, .done n, dp⟩
  | long {f ns h tr dp many} : many = most → Run1 hm bk most 0 (.ask f ns h) tr dp many ⟨tr, .long, dp⟩
  | give {m n x T nm e es g tr dp many r} : along hm T (fset nm x n) e = some (es, g) → Run1 hm bk most m g (tr ++ es) dp many r → Run1 hm bk most (m + 1) (.give n (.clo x T nm e)) tr dp many r
  | ask {m f ns h tr dp many r xs body es g} : many ≠ most → bk f = some (xs, body) → xs.length = ns.length → along hm body (bind0 xs ns) (.home h) = some (es, g) →
      Run1 hm bk most m g (tr ++ [.ask f ns] ++ es) (max dp (htH h)) (many + 1) r → Run1 hm bk most (m + 1) (.ask f ns h) tr dp many r

def emb : Tm W → B W
  | .num n => .num n
  | .nm x => .nm x
  | .op l a b => .op l (emb a) (emb b)
def back : Pt W → B W
  | .give _ s => emb s
  | .ask f ss _ => .ask f (ss.map emb)
  | .st tl x s T => .lt x (if tl then .tell (emb s) else emb s) (back T)
  | .ite s T U => .ite (emb s) (back T) (back U)
  | .post _ x T U => .lt x (back U) (back T)
structure Fr (W : Type) where
  t : B W
  r : W → Option Int
  ht : Nat
  la : Bool
  dn : List Int
inductive At (W : Type) where
  | val (n : Int)
  | nothing
  | foc (t : B W) (r : W → Option Int) (ht : Nat) (la : Bool)
def numAt : Option Int → At W
  | some n => .val n
  | none => .nothing
def parts : B W → List (B W)
  | .num _ => []
  | .nm _ => []
  | .op _ a b => [a, b]
  | .tell a => [a]
  | .lt _ a b => [a, b]
  | .ite a b c => [a, b, c]
  | .ask _ as => as
def onB (t : B W) (r : W → Option Int) (ht : Nat) (la : Bool) (rest : List (Fr W)) : Option (At W × List (Fr W)) :=
  match t with
  | .num n => some (.val n, rest)
  | .nm x => match r x with
    | some n => some (.val n, rest)
    | none => none
  | t => match parts t with
    | [] => some (.nothing, ⟨t, r, ht, la, []⟩ :: rest)
    | p :: _ => some (.foc p r ht false, ⟨t, r, ht, la, []⟩ :: rest)
inductive Put (W : Type) where
  | go (ev : List (Ev W)) (a : At W) (rest : List (Fr W))
  | ask (f : W) (ns : List Int) (ht : Nat)
def putB (num : Option Int) (t : B W) (r : W → Option Int) (ht : Nat) (la : Bool) (dn : List Int) (rest : List (Fr W)) : Option (Put W) :=
  let dn' := dn ++ num.toList
  match t with
  | .lt x _ b => match num, dn with
    | some n, [] => some (.go [] (.foc b (fset r x n) ht la) rest)
    | _, _ => none
  | .ite _ b c => match num with
    | some n => some (.go [] (.foc (if n = 0 then c else b) r ht la) rest)
    | none => none
  | .op l _ b => match dn' with
    | [m] => some (.go [] (.foc b r ht false) (⟨t, r, ht, la, [m]⟩ :: rest))
    | [m, n] => some (.go [] (.val (opv l m n)) rest)
    | _ => none
  | .tell _ => match dn' with
    | [m] => some (.go [.tell m] (.val m) rest)
    | _ => none
  | .ask f as => match as[dn'.length]? with
    | some a => some (.go [] (.foc a r ht false) (⟨t, r, ht, la, dn'⟩ :: rest))
    | none => if dn'.length = as.length then some (.ask f dn' (if la then ht else ht + 1)) else none
  | _ => none
inductive Run2 (bk : W → Option (List W × B W)) (most : Nat) : Nat → At W → List (Fr W) → List (Ev W) → Nat → Nat → Res W → Prop
  | done {n tr dp many} : Run2 bk most 1 (.val n) [] tr dp many ⟨tr, .done n, dp⟩
  | on {m t r ht la rest a rest' tr dp many res} : onB t r ht la rest = some (a, rest') → Run2 bk most m a rest' tr dp many res → Run2 bk most (m + 1) (.foc t r ht la) rest tr dp many res
  | put {m num t r ht la dn rest evs a rest' tr dp many res} : putB num t r ht la dn rest = some (.go evs a rest') → Run2 bk most m a rest' (tr ++ evs) dp many res → Run2 bk most (m + 1) (numAt num) (⟨t, r, ht, la, dn⟩ :: rest) tr dp many res
  | long {num t r ht la dn rest f ns h tr dp many} : putB num t r ht la dn rest = some (.ask f ns h) → many = most → Run2 bk most 1 (numAt num) (⟨t, r, ht, la, dn⟩ :: rest) tr dp many ⟨tr, .long, dp⟩
  | ask {m num t r ht la dn rest f ns h xs body tr dp many res} : putB num t r ht la dn rest = some (.ask f ns h) → many ≠ most → bk f = some (xs, body) → xs.length = ns.length →
      Run2 bk most m (.foc body (bind0 xs ns) h true) rest (tr ++ [.ask f ns]) (max dp h) (many + 1) res → Run2 bk most (m + 1) (numAt num) (⟨t, r, ht, la, dn⟩ :: rest) tr dp many res
/-- an ask that is due -/
def Askd (bk : W → Option (List W × B W)) (most : Nat) (f : W) (ns : List Int) (h : Nat) (rest : List (Fr W)) (tr : List (Ev W)) (dp many : Nat) (res : Res W) : Prop :=
  (many = most ∧ res = ⟨tr, .long, dp⟩) ∨ (many ≠ most ∧ ∃ xs body m, bk f = some (xs, body) ∧ xs.length = ns.length ∧ Run2 bk most m (.foc body (bind0 xs ns) h true) rest (tr ++ [.ask f ns]) (max dp h) (many + 1) res)
variable {hm : W} {wd : Nat → W} {used : List W} {hd : W → Option Nat} {d : Nat} {bk1 : W → Option (List W × Pt W)} {bk2 : W → Option (List W × B W)} {most : Nat}

def G1 (hm : W) (bk : W → Option (List W × Pt W)) (most : Nat) (g : Gs W) (tr : List (Ev W)) (dp many : Nat) (r : Res W) : Prop := ∃ m, Run1 hm bk most m g tr dp many r
def G2 (bk : W → Option (List W × B W)) (most : Nat) (a : At W) (rest : List (Fr W)) (tr : List (Ev W)) (dp many : Nat) (r : Res W) : Prop := ∃ m, Run2 bk most m a rest tr dp many r

theorem G2.on {t : B W} {r ht la rest a rest' tr dp many} {res : Res W} (h : onB t r ht la rest = some (a, rest')) (q : G2 bk2 most a rest' tr dp many res) : G2 bk2 most (.foc t r ht la) rest tr dp many res :=
  let ⟨m, q⟩ := q
  ⟨m + 1, .on h q⟩
theorem G2.put {num} {t : B W} {r ht la dn rest evs a rest' tr dp many} {res : Res W} (h : putB num t r ht la dn rest = some (.go evs a rest')) (q : G2 bk2 most a rest' (tr ++ evs) dp many res) : G2 bk2 most (numAt num) (⟨t, r, ht, la, dn⟩ :: rest) tr dp many res :=
  let ⟨m, q⟩ := q
  ⟨m + 1, .put h q⟩
theorem G2.askd {num} {t : B W} {r ht la dn rest f ns h tr dp many} {res : Res W} (e : putB num t r ht la dn rest = some (.ask f ns h)) (q : Askd bk2 most f ns h rest tr dp many res) : G2 bk2 most (numAt num) (⟨t, r, ht, la, dn⟩ :: rest) tr dp many res := by
  rcases q with ⟨a, rfl⟩ | ⟨a, xs, body, m, b, c, q⟩
  · exact ⟨1, .long e a⟩
  · exact ⟨m + 1, .ask e a b c q⟩
/-- a simple term is done to its number -/
theorem G2.tm {r : W → Option Int} {ht tr dp many} {res : Res W} : ∀ {s : Tm W} {n : Int} {la : Bool} {rest : List (Fr W)}, tev r s = some n → G2 bk2 most (.val n) rest tr dp many res → G2 bk2 most (.foc (emb s) r ht la) rest tr dp many res
  | .num i, n, la, rest, h, q => by
    cases h
    exact G2.on rfl q
  | .nm x, n, la, rest, h, q => by
    have h' : r x = some n := h
    refine G2.on (a := .val n) (rest' := rest) ?_ q
    show (match r x with | some n => some (At.val n, rest) | none => none) = _
    rw [h']
  | .op l a b, n, la, rest, h, q => by
    simp only [tev] at h
    cases ea : tev r a with
    | none => rw [ea] at h; cases h
    | some i =>
      cases eb : tev r b with
      | none => rw [ea, eb] at h; cases h
      | some j =>
        rw [ea, eb] at h
        cases h
        refine G2.on (a := .foc (emb a) r ht false) (rest' := ⟨emb (.op l a b), r, ht, la, []⟩ :: rest) rfl ?_
        refine G2.tm ea ?_
        refine G2.put (num := some i) (a := .foc (emb b) r ht false) (rest' := ⟨emb (.op l a b), r, ht, la, [i]⟩ :: rest) (evs := []) rfl ?_
        rw [List.append_nil]
        refine G2.tm eb ?_
        refine G2.put (num := some j) (a := .val (opv l i j)) (rest' := rest) (evs := []) rfl ?_
        rw [List.append_nil]
        exact q
/-- the arguments of an ask, from the left -/
theorem G2.args {r : W → Option Int} {ht tr dp many f la} {rest : List (Fr W)} {res : Res W} {all : List (Tm W)} : ∀ {ss : List (Tm W)} {pre : List (Tm W)} {ms ns : List Int}, all = pre ++ ss → ms.length = pre.length → tevs r ss = some ns →
    Askd bk2 most f (ms ++ ns) (if la then ht else ht + 1) rest tr dp many res → ∀ {num : Option Int} {dn : List Int}, dn ++ num.toList = ms → G2 bk2 most (numAt num) (⟨.ask f (all.map emb), r, ht, la, dn⟩ :: rest) tr dp many res
  | [], pre, ms, ns, e, l, h, q, num, dn, ed => by
    cases h
    rw [List.append_nil] at e q
    refine G2.askd (f := f) (ns := ms) (h := if la then ht else ht + 1) ?_ q
    simp only [putB, ed]
    have z : (all.map emb)[ms.length]? = none := by rw [List.getElem?_eq_none_iff, List.length_map, e, l]; exact Nat.le_refl _
    rw [z]
    show (if ms.length = (all.map emb).length then _ else _) = _
    rw [if_pos (by rw [List.length_map, e, l])]
  | s :: ss, pre, ms, ns, e, l, h, q, num, dn, ed => by
    simp only [tevs] at h
    cases es : tev r s with
    | none => rw [es] at h; cases h
    | some i =>
      cases er : tevs r ss with
      | none => rw [es, er] at h; cases h
      | some js =>
        rw [es, er] at h
        cases h
        refine G2.put (evs := []) (a := .foc (emb s) r ht false) (rest' := ⟨.ask f (all.map emb), r, ht, la, ms⟩ :: rest) ?_ ?_
        · simp only [putB, ed]
          have z : (all.map emb)[ms.length]? = some (emb s) := by
            rw [List.getElem?_map, e, l, List.getElem?_append_right (Nat.le_refl _), Nat.sub_self]; rfl
          rw [z]
        · rw [List.append_nil]
          refine G2.tm es ?_
          refine G2.args (ss := ss) (pre := pre ++ [s]) (ms := ms ++ [i]) (ns := js) (by rw [e, List.append_assoc]; rfl) (by rw [List.length_append, List.length_append, l]; rfl) er (by rw [List.append_assoc]; exact q) (num := some i) (dn := ms) rfl
theorem G2.ask_ {r : W → Option Int} {ht tr dp many f la} {rest : List (Fr W)} {res : Res W} {ss : List (Tm W)} {ns : List Int} (h : tevs r ss = some ns) (q : Askd bk2 most f ns (if la then ht else ht + 1) rest tr dp many res) :
    G2 bk2 most (.foc (.ask f (ss.map emb)) r ht la) rest tr dp many res := by
  cases ss with
  | nil =>
    refine G2.on (a := .nothing) (rest' := ⟨.ask f [], r, ht, la, []⟩ :: rest) rfl ?_
    exact G2.args (all := []) (ss := []) (pre := []) (ms := []) rfl rfl h q (num := none) (dn := []) rfl
  | cons s ss =>
    simp only [tevs] at h
    cases es : tev r s with
    | none => rw [es] at h; cases h
    | some i =>
      cases er : tevs r ss with
      | none => rw [es, er] at h; cases h
      | some js =>
        rw [es, er] at h
        cases h
        refine G2.on (a := .foc (emb s) r ht false) (rest' := ⟨.ask f ((s :: ss).map emb), r, ht, la, []⟩ :: rest) rfl ?_
        refine G2.tm es ?_
        exact G2.args (all := s :: ss) (ss := ss) (pre := [s]) (ms := [i]) (ns := js) rfl rfl er q (num := some i) (dn := []) rfl
/-- the A of a let is done, then its B -/
theorem G2.let_tm {r : W → Option Int} {ht tr dp many la x} {rest : List (Fr W)} {res : Res W} {s : Tm W} {b : B W} {n : Int} (h : tev r s = some n) (q : G2 bk2 most (.foc b (fset r x n) ht la) rest tr dp many res) :
    G2 bk2 most (.foc (.lt x (emb s) b) r ht la) rest tr dp many res := by
  refine G2.on (a := .foc (emb s) r ht false) (rest' := ⟨.lt x (emb s) b, r, ht, la, []⟩ :: rest) rfl ?_
  refine G2.tm h ?_
  refine G2.put (num := some n) (a := .foc b (fset r x n) ht la) (rest' := rest) (evs := []) rfl ?_
  rw [List.append_nil]
  exact q
theorem G2.let_tell {r : W → Option Int} {ht tr dp many la x} {rest : List (Fr W)} {res : Res W} {s : Tm W} {b : B W} {n : Int} (h : tev r s = some n) (q : G2 bk2 most (.foc b (fset r x n) ht la) rest (tr ++ [.tell n]) dp many res) :
    G2 bk2 most (.foc (.lt x (.tell (emb s)) b) r ht la) rest tr dp many res := by
  refine G2.on (a := .foc (.tell (emb s)) r ht false) (rest' := ⟨.lt x (.tell (emb s)) b, r, ht, la, []⟩ :: rest) rfl ?_
  refine G2.on (a := .foc (emb s) r ht false) (rest' := ⟨.tell (emb s), r, ht, false, []⟩ :: ⟨.lt x (.tell (emb s)) b, r, ht, la, []⟩ :: rest) rfl ?_
  refine G2.tm h ?_
  refine G2.put (num := some n) (a := .val n) (rest' := ⟨.lt x (.tell (emb s)) b, r, ht, la, []⟩ :: rest) (evs := [.tell n]) rfl ?_
  refine G2.put (num := some n) (a := .foc b (fset r x n) ht la) (rest' := rest) (evs := []) rfl ?_
  rw [List.append_nil]
  exact q
theorem G2.ite_ {r : W → Option Int} {ht tr dp many la} {rest : List (Fr W)} {res : Res W} {s : Tm W} {b c : B W} {n : Int} (h : tev r s = some n) (q : G2 bk2 most (.foc (if n = 0 then c else b) r ht la) rest tr dp many res) :
    G2 bk2 most (.foc (.ite (emb s) b c) r ht la) rest tr dp many res := by
  refine G2.on (a := .foc (emb s) r ht false) (rest' := ⟨.ite (emb s) b c, r, ht, la, []⟩ :: rest) rfl ?_
  refine G2.tm h ?_
  refine G2.put (num := some n) (a := .foc (if n = 0 then c else b) r ht la) (rest' := rest) (evs := []) rfl ?_
  rw [List.append_nil]
  exact q
theorem G2.let_ask {r : W → Option Int} {ht tr dp many la x f} {rest : List (Fr W)} {res : Res W} {ss : List (Tm W)} {b : B W} {ns : List Int} (h : tevs r ss = some ns)
    (q : Askd bk2 most f ns (ht + 1) (⟨.lt x (.ask f (ss.map emb)) b, r, ht, la, []⟩ :: rest) tr dp many res) :
    G2 bk2 most (.foc (.lt x (.ask f (ss.map emb)) b) r ht la) rest tr dp many res := by
  refine G2.on (a := .foc (.ask f (ss.map emb)) r ht false) (rest' := ⟨.lt x (.ask f (ss.map emb)) b, r, ht, la, []⟩ :: rest) rfl ?_
  exact G2.ask_ h q

/-! ### the two runs side by side -/
def NR (wd : Nat → W) (used : List W) (k : Nat) (xs : List W) (ws : W → Option W) (nm r : W → Option Int) : Prop := ∀ x ∈ xs, ∃ w n, ws x = some w ∧ Old wd used k w ∧ nm x = some n ∧ r w = some n
theorem NR.mono {k i : Nat} {xs : List W} {ws : W → Option W} {nm r : W → Option Int} (h : NR wd used k xs ws nm r) (l : k ≤ i) : NR wd used i xs ws nm r := fun x hx =>
  let ⟨w, n, a, b, c⟩ := h x hx
  ⟨w, n, a, b.mono l, c⟩
theorem NR.fresh {k i : Nat} {xs : List W} {ws : W → Option W} {nm r : W → Option Int} (inj : ∀ a b, wd a = wd b → a = b) (h : NR wd used k xs ws nm r) (l : k ≤ i) (hu : wd i ∉ used) (v : Int) : NR wd used (i + 1) xs ws nm (fset r (wd i) v) := fun x hx =>
  let ⟨w, n, a, b, c, e⟩ := h x hx
  ⟨w, n, a, b.mono (by omega), c, by rw [fset_ne (b.ne inj l hu)]; exact e⟩
theorem NR.cons {k i : Nat} {xs : List W} {ws : W → Option W} {nm r : W → Option Int} (inj : ∀ a b, wd a = wd b → a = b) (h : NR wd used k xs ws nm r) (l : k ≤ i) (hu : wd i ∉ used) (x : W) (v : Int) :
    NR wd used (i + 1) (x :: xs) (fset ws x (wd i)) (fset nm x v) (fset r (wd i) v) := fun y hy => by
  by_cases e : y = x
  · refine ⟨wd i, v, by rw [e]; exact fset_same, .inr ⟨i, by omega, rfl⟩, by rw [e]; exact fset_same, fset_same⟩
  · obtain ⟨w, n, a, b, c, q⟩ := h y ((List.mem_cons.mp hy).resolve_left e)
    exact ⟨w, n, by rw [fset_ne e]; exact a, b.mono (by omega), by rw [fset_ne e]; exact c, by rw [fset_ne (b.ne inj l hu)]; exact q⟩
theorem tev_ren {k : Nat} {xs : List W} {ws : W → Option W} {nm r : W → Option Int} (h : NR wd used k xs ws nm r) : ∀ {s : Tm W}, WFt xs s → ∃ n, tev nm s = some n ∧ tev r (ren ws s) = some n
  | .num n, _ => ⟨n, rfl, rfl⟩
  | .nm x, q => by
    obtain ⟨w, n, a, _, c, e⟩ := h x q
    refine ⟨n, c, ?_⟩
    show r ((ws x).getD x) = some n
    rw [a]; exact e
  | .op l a b, q => by
    obtain ⟨m, a1, a2⟩ := tev_ren h q.1
    obtain ⟨n, b1, b2⟩ := tev_ren h q.2
    exact ⟨opv l m n, by simp only [tev, a1, b1], by simp only [ren, tev, a2, b2]⟩
theorem tevs_ren {k : Nat} {xs : List W} {ws : W → Option W} {nm r : W → Option Int} (h : NR wd used k xs ws nm r) : ∀ {ss : List (Tm W)}, (∀ s ∈ ss, WFt xs s) → ∃ ns, tevs nm ss = some ns ∧ tevs r (ss.map (ren ws)) = some ns ∧ ns.length = ss.length
  | [], _ => ⟨[], rfl, rfl, rfl⟩
  | s :: ss, q => by
    obtain ⟨n, a1, a2⟩ := tev_ren h (q s List.mem_cons_self)
    obtain ⟨ns, b1, b2, l⟩ := tevs_ren h (ss := ss) fun t ht => q t (List.mem_cons_of_mem _ ht)
    exact ⟨n :: ns, by simp only [tevs, a1, b1], by simp only [List.map_cons, tevs, a2, b2], by simp only [List.length_cons, l]⟩
/-- the hand-ons of a run and the closures of the laying -/
def DR (hm : W) (wd : Nat → W) (used : List W) (k : Nat) (r : W → Option Int) (h0 : DH W) : DE W → HEnv W → Prop
  | .home h, [] => h = h0
  | .push j x T nm e, (j', c) :: he => j = j' ∧ j ≠ hm ∧ x = c.x ∧ T = c.T ∧ NR wd used k c.xs c.ws nm r ∧ DR hm wd used k r h0 e he
  | _, _ => False
theorem DR.mono {k i : Nat} {r : W → Option Int} {h0 : DH W} (l : k ≤ i) : ∀ {e : DE W} {he : HEnv W}, DR hm wd used k r h0 e he → DR hm wd used i r h0 e he
  | .home _, [], h => h
  | .push .., _ :: _, ⟨a, b, c, d, n, q⟩ => ⟨a, b, c, d, n.mono l, DR.mono l q⟩
  | .home _, _ :: _, h => h.elim
  | .push .., [], h => h.elim
theorem DR.fresh {k i : Nat} {r : W → Option Int} {h0 : DH W} (inj : ∀ a b, wd a = wd b → a = b) (l : k ≤ i) (hu : wd i ∉ used) (v : Int) : ∀ {e : DE W} {he : HEnv W}, DR hm wd used k r h0 e he → DR hm wd used (i + 1) (fset r (wd i) v) h0 e he
  | .home _, [], h => h
  | .push .., _ :: _, ⟨a, b, c, d, n, q⟩ => ⟨a, b, c, d, n.fresh inj l hu v, DR.fresh inj l hu v q⟩
  | .home _, _ :: _, h => h.elim
  | .push .., [], h => h.elim
theorem DR.ht {k : Nat} {r : W → Option Int} {h0 : DH W} : ∀ {e : DE W} {he : HEnv W}, DR hm wd used k r h0 e he → htE e = htH h0
  | .home _, [], h => congrArg htH h
  | .push _ _ _ _ e, _ :: _, ⟨_, _, _, _, _, q⟩ => by
    show htE e = htH h0
    exact DR.ht q
  | .home _, _ :: _, h => h.elim
  | .push .., [], h => h.elim
theorem DR.none {k : Nat} {r : W → Option Int} {h0 : DH W} {j : W} (ej : j = hm) : ∀ {e : DE W} {he : HEnv W}, DR hm wd used k r h0 e he → dfind hm e j = some h0
  | .home h, [], q => by
    show (if j = hm then some h else Option.none) = some h0
    rw [if_pos ej]
    exact congrArg some q
  | .push i x T nm e, _ :: _, ⟨_, b, _, _, _, q⟩ => by
    show (if j = i then some (DH.clo x T nm e) else dfind hm e j) = some h0
    rw [if_neg (fun z => b (z.symm.trans ej))]
    exact DR.none ej q
  | .home _, _ :: _, h => h.elim
  | .push .., [], h => h.elim
theorem DR.find {k : Nat} {r : W → Option Int} {h0 : DH W} {j : W} {c : Clo W} {he' : HEnv W} : ∀ {e : DE W} {he : HEnv W}, DR hm wd used k r h0 e he → hfind he j = some (c, he') →
    ∃ nm e', dfind hm e j = some (.clo c.x c.T nm e') ∧ NR wd used k c.xs c.ws nm r ∧ DR hm wd used k r h0 e' he'
  | .home h, [], _, z => by cases z
  | .push i x T nm e, (i', b) :: he, ⟨a1, a2, a3, a4, a5, q⟩, z => by
    subst a1; subst a3; subst a4
    by_cases ej : j = i
    · have z' : some (b, he) = some (c, he') := (if_pos ej).symm.trans z
      cases z'
      exact ⟨nm, e, if_pos ej, a5, q⟩
    · obtain ⟨nm', e', y1, y2, y3⟩ := DR.find q ((if_neg ej).symm.trans z)
      exact ⟨nm', e', (if_neg ej).trans y1, y2, y3⟩
  | .home _, _ :: _, h, _ => h.elim
  | .push .., [], h, _ => h.elim
/-- a hand-on of the run and the rest of the book's run -/
inductive Hd (hm : W) (wd : Nat → W) (hd : W → Option Nat) (d : Nat) : DH W → List (Fr W) → Prop
  | fin : Hd hm wd hd d .fin []
  | clo {used x T nm e h0 rest xs ws he js i p L k' p' k r a} : LayR hm wd used T (x :: xs) (fset ws x (wd i)) he (i + 1) p L k' p' → WFp hm hd d (x :: xs) js T → HWF hm hd d js he → NR wd used k xs ws nm r → DR hm wd used k r h0 e he →
      k ≤ i → wd i ∉ used → Hd hm wd hd d h0 rest → Hd hm wd hd d (.clo x T nm e) (⟨.lt (wd i) a (back L), r, htH h0, true, []⟩ :: rest)
theorem seg (inj : ∀ a b, wd a = wd b → a = b) {dp many : Nat} {h0 : DH W} {rest : List (Fr W)} (H0 : Hd hm wd hd d h0 rest)
    (hG : ∀ n tr, ∃ r, G1 hm bk1 most (.give n h0) tr dp many r ∧ G2 bk2 most (.val n) rest tr dp many r)
    (hA : ∀ f ns h rest tr, Hd hm wd hd d h rest → hd f = some ns.length → ∃ r, G1 hm bk1 most (.ask f ns h) tr dp many r ∧ Askd bk2 most f ns (htH h) rest tr dp many r)
    {P L : Pt W} {xs ws he k p k' p'} (q : LayR hm wd used P xs ws he k p L k' p') : ∀ js nm e r tr, WFp hm hd d xs js P → HWF hm hd d js he → NR wd used k xs ws nm r → DR hm wd used k r h0 e he →
      ∃ es g, along hm P nm e = some (es, g) ∧ ∃ res, G1 hm bk1 most g (tr ++ es) dp many res ∧ G2 bk2 most (.foc (back L) r (htH h0) true) rest tr dp many res := by
  induction q with
  | @give0 j s xs ws he k p z =>
    intro js nm e r tr w hw nr dr
    have ej : j = hm := by
      rcases hfind_wf hw w.2.2 with ⟨_, b⟩ | ⟨_, _, _, b, _⟩
      · exact b
      · rw [z] at b; cases b
    obtain ⟨n, t1, t2⟩ := tev_ren nr w.1
    obtain ⟨res, a1, a2⟩ := hG n tr
    refine ⟨[], .give n h0, by simp only [along, t1, dr.none ej], res, by rw [List.append_nil]; exact a1, G2.tm t2 a2⟩
  | @give1 j s xs ws he k p c he' i L k' p' z hk hu lr ih =>
    intro js nm e r tr w hw nr dr
    rcases hfind_wf hw w.2.2 with ⟨a, b⟩ | ⟨c', he'', js', a, b, q', l'⟩
    · rw [z] at a; cases a
    · rw [z] at a; cases a
      obtain ⟨n, t1, t2⟩ := tev_ren nr w.1
      obtain ⟨nm', e', f1, f2, f3⟩ := dr.find z
      obtain ⟨es, g, al, res, a1, a2⟩ := ih js' (fset nm' c.x n) e' (fset r (wd i) n) tr b q' (f2.cons inj hk hu c.x n) (f3.fresh inj hk hu n)
      refine ⟨[], .give n (.clo c.x c.T nm' e'), by simp only [along, t1, f1], res, ?_, G2.let_tm t2 a2⟩
      rw [List.append_nil]
      obtain ⟨m, a1⟩ := a1
      exact ⟨m + 1, .give al a1⟩
  | @ask0 f ss j xs ws he k p z =>
    intro js nm e r tr w hw nr dr
    have ej : j = hm := by
      rcases hfind_wf hw w.2.2 with ⟨_, b⟩ | ⟨_, _, _, b, _⟩
      · exact b
      · rw [z] at b; cases b
    obtain ⟨ns, t1, t2, l⟩ := tevs_ren nr fun s hs => (w.1 s hs).1
    obtain ⟨res, a1, a2⟩ := hA f ns h0 rest tr H0 (by rw [l]; exact w.2.1)
    exact ⟨[], .ask f ns h0, by simp only [along, t1, dr.none ej], res, by rw [List.append_nil]; exact a1, G2.ask_ t2 a2⟩
  | @ask1 f ss j xs ws he k p c he' i L k' p' z hk hu lr ih =>
    intro js nm e r tr w hw nr dr
    rcases hfind_wf hw w.2.2 with ⟨a, b⟩ | ⟨c', he'', js', a, b, q', l'⟩
    · rw [z] at a; cases a
    · rw [z] at a; cases a
      obtain ⟨ns, t1, t2, l⟩ := tevs_ren nr fun s hs => (w.1 s hs).1
      obtain ⟨nm', e', f1, f2, f3⟩ := dr.find z
      have hh : htH (.clo c.x c.T nm' e') = htH h0 + 1 := congrArg (· + 1) f3.ht
      obtain ⟨res, a1, a2⟩ := hA f ns (.clo c.x c.T nm' e') (⟨.lt (wd i) (.ask f ((ss.map (ren ws)).map emb)) (back L), r, htH h0, true, []⟩ :: rest) tr (.clo lr b q' f2 f3 hk hu H0) (by rw [l]; exact w.2.1)
      rw [hh] at a2
      exact ⟨[], .ask f ns (.clo c.x c.T nm' e'), by simp only [along, t1, f1], res, by rw [List.append_nil]; exact a1, G2.let_ask t2 a2⟩
  | @st tl x s T xs ws he k p i L k' p' hk hu _ ih =>
    intro js nm e r tr w hw nr dr
    obtain ⟨n, t1, t2⟩ := tev_ren nr w.1
    cases tl with
    | true =>
      obtain ⟨es, g, al, res, a1, a2⟩ := ih js (fset nm x n) e (fset r (wd i) n) (tr ++ [.tell n]) w.2.2 hw (nr.cons inj hk hu x n) (dr.fresh inj hk hu n)
      exact ⟨.tell n :: es, g, by simp only [along, t1, al, if_true], res, by rw [List.append_assoc] at a1; exact a1, G2.let_tell t2 a2⟩
    | false =>
      obtain ⟨es, g, al, res, a1, a2⟩ := ih js (fset nm x n) e (fset r (wd i) n) tr w.2.2 hw (nr.cons inj hk hu x n) (dr.fresh inj hk hu n)
      exact ⟨es, g, by simp [along, t1, al], res, a1, G2.let_tm t2 a2⟩
  | @ite s T U xs ws he k p L1 k1 p1 L2 k2 p2 q1 q2 i1 i2 =>
    intro js nm e r tr w hw nr dr
    obtain ⟨n, t1, t2⟩ := tev_ren nr w.1
    by_cases h : n = 0
    · obtain ⟨es, g, al, res, a1, a2⟩ := i2 js nm e r tr w.2.2.2 hw (nr.mono q1.mono.1) (dr.mono q1.mono.1)
      exact ⟨es, g, by simp only [along, t1, if_pos h, al], res, a1, G2.ite_ t2 (by rw [if_pos h]; exact a2)⟩
    · obtain ⟨es, g, al, res, a1, a2⟩ := i1 js nm e r tr w.2.2.1 hw nr dr
      exact ⟨es, g, by simp only [along, t1, if_neg h, al], res, a1, G2.ite_ t2 (by rw [if_neg h]; exact a2)⟩
  | @post j x T U xs ws he k p L k' p' _ ih =>
    intro js nm e r tr w hw nr dr
    obtain ⟨es, g, al, res, a1, a2⟩ := ih (j :: js) nm (.push j x T nm e) r tr w.2.2 ⟨js, fun i hi => List.mem_cons.mp hi, w.2.1, hw⟩ nr ⟨rfl, w.1, rfl, rfl, nr, dr⟩
    exact ⟨es, g, by simp only [along, if_neg w.1, al], res, a1, a2⟩
theorem bindF_mem : ∀ {xs : List W} {ns : List Int} {r : W → Option Int} {x : W}, xs.length = ns.length → (x ∈ xs ∨ ∃ n, r x = some n) → ∃ n, bindF r xs ns x = some n
  | [], [], r, x, _, h => h.elim (fun z => by cases z) fun z => z
  | y :: xs, n :: ns, r, x, l, h => by
    refine bindF_mem (xs := xs) (ns := ns) (by simpa using l) ?_
    by_cases e : x = y
    · exact .inr ⟨n, by rw [e]; exact fset_same⟩
    · rcases h with h | ⟨m, h⟩
      · exact .inl ((List.mem_cons.mp h).resolve_left e)
      · exact .inr ⟨m, by rw [fset_ne e]; exact h⟩
  | [], _ :: _, _, _, l, _ => by simp at l
  | _ :: _, [], _, _, l, _ => by simp at l
/-- the two books: each body is laid and turned back -/
def Bok (hm : W) (wd : Nat → W) (hd : W → Option Nat) (d : Nat) (bk1 : W → Option (List W × Pt W)) (bk2 : W → Option (List W × B W)) : Prop :=
  ∀ f n, hd f = some n → ∃ xs P ws L k p, bk1 f = some (xs, P) ∧ bk2 f = some (xs, back L) ∧ xs.length = n ∧ WFp hm hd d xs [hm] P ∧ (∀ x ∈ xs, ws x = some x) ∧ LayR hm wd xs P xs ws [] 0 0 L k p
theorem runs (inj : ∀ a b, wd a = wd b → a = b) (hb : Bok hm wd hd d bk1 bk2) : ∀ (q many : Nat), most - many = q → many ≤ most →
    (∀ f ns h rest tr dp, Hd hm wd hd d h rest → hd f = some ns.length → ∃ r, G1 hm bk1 most (.ask f ns h) tr dp many r ∧ Askd bk2 most f ns (htH h) rest tr dp many r) ∧
    (∀ n h rest tr dp, Hd hm wd hd d h rest → ∃ r, G1 hm bk1 most (.give n h) tr dp many r ∧ G2 bk2 most (.val n) rest tr dp many r) := by
  intro q
  induction q with
  | zero =>
    intro many e l
    have em : many = most := by omega
    have A : ∀ f ns h rest tr dp, Hd hm wd hd d h rest → hd f = some ns.length → ∃ r, G1 hm bk1 most (.ask f ns h) tr dp many r ∧ Askd bk2 most f ns (htH h) rest tr dp many r := fun f ns h rest tr dp _ _ =>
      ⟨⟨tr, .long, dp⟩, ⟨0, .long em⟩, .inl ⟨em, rfl⟩⟩
    refine ⟨A, fun n h rest tr dp q => ?_⟩
    induction q generalizing n tr with
    | fin => exact ⟨_, ⟨0, .fin⟩, ⟨1, .done⟩⟩
    | @clo used x T nm e h0 rest xs ws he js i p L k' p' k r a lr w hw nr dr hk hu H0 ih =>
      obtain ⟨es, g, al, res, a1, a2⟩ := seg inj H0 (fun n tr => ih n tr) (fun f ns h rest tr => A f ns h rest tr dp) lr js (fset nm x n) e (fset r (wd i) n) tr w hw (nr.cons inj hk hu x n) (dr.fresh inj hk hu n)
      obtain ⟨m, a1⟩ := a1
      refine ⟨res, ⟨m + 1, .give al a1⟩, ?_⟩
      exact G2.put (num := some n) (evs := []) rfl (by rw [List.append_nil]; exact a2)
  | succ q ihq =>
    intro many e l
    have A : ∀ f ns h rest tr dp, Hd hm wd hd d h rest → hd f = some ns.length → ∃ r, G1 hm bk1 most (.ask f ns h) tr dp many r ∧ Askd bk2 most f ns (htH h) rest tr dp many r := fun f ns h rest tr dp H hf => by
      obtain ⟨ihA, ihB⟩ := ihq (many + 1) (by omega) (by omega)
      obtain ⟨xs, P, ws, L, k, p, b1, b2, hl, w, hws, lr⟩ := hb f _ hf
      have nr : NR wd xs 0 xs ws (bind0 xs ns) (bind0 xs ns) := fun x hx => by
        obtain ⟨n, z⟩ := bindF_mem (r := fun _ => none) (ns := ns) hl (.inl hx)
        exact ⟨x, n, hws x hx, .inl hx, z, z⟩
      obtain ⟨es, g, al, res, a1, a2⟩ := seg inj (bk1 := bk1) (bk2 := bk2) (most := most) (dp := max dp (htH h)) (many := many + 1) H (fun n tr => ihB n h rest tr _ H) (fun f ns h rest tr => ihA f ns h rest tr _) lr [hm] (bind0 xs ns) (.home h) (bind0 xs ns) (tr ++ [.ask f ns]) w (fun j hj => by simpa using hj) nr rfl
      obtain ⟨m1, a1⟩ := a1
      obtain ⟨m2, a2⟩ := a2
      exact ⟨res, ⟨m1 + 1, .ask (by omega) b1 hl al a1⟩, .inr ⟨by omega, xs, back L, m2, b2, hl, a2⟩⟩
    refine ⟨A, fun n h rest tr dp q => ?_⟩
    induction q generalizing n tr with
    | fin => exact ⟨_, ⟨0, .fin⟩, ⟨1, .done⟩⟩
    | @clo used x T nm e h0 rest xs ws he js i p L k' p' k r a lr w hw nr dr hk hu H0 ih =>
      obtain ⟨es, g, al, res, a1, a2⟩ := seg inj H0 (fun n tr => ih n tr) (fun f ns h rest tr => A f ns h rest tr dp) lr js (fset nm x n) e (fset r (wd i) n) tr w hw (nr.cons inj hk hu x n) (dr.fresh inj hk hu n)
      obtain ⟨m, a1⟩ := a1
      refine ⟨res, ⟨m + 1, .give al a1⟩, ?_⟩
      exact G2.put (num := some n) (evs := []) rfl (by rw [List.append_nil]; exact a2)
/-- THE RUNS: the turned book's run and the run of the laid one turned back come to the same -/
theorem runs_same (inj : ∀ a b, wd a = wd b → a = b) (hb : Bok hm wd hd d bk1 bk2) (f : W) (ns : List Int) (hf : hd f = some ns.length) : ∃ r, G1 hm bk1 most (.ask f ns .fin) [] 0 0 r ∧ Askd bk2 most f ns 0 [] [] 0 0 r :=
  (runs (most := most) inj hb most 0 (by omega) (Nat.zero_le _)).1 f ns .fin [] [] 0 .fin hf
end
end Wn
end
section
set_option autoImplicit false
set_option linter.all false
namespace Wn
/-! ### how long a run's trail is, and what is asked -/
section
variable {W : Type} [DecidableEq W] {hm : W}
mutual
def phH : DH W → Nat
  | .fin => 0
  | .clo _ T _ e => cnt T + phE e
def phE : DE W → Nat
  | .home h => phH h
  | .push _ _ T _ e => cnt T + phE e
end
def gsH : Gs W → DH W
  | .give _ h => h
  | .ask _ _ h => h
theorem dfind_ph : ∀ {e : DE W} {k : W} {h : DH W}, dfind hm e k = some h → phH h ≤ phE e
  | .home h0, k, h, z => by
    simp only [dfind] at z
    by_cases ek : k = hm
    · rw [if_pos ek] at z; cases z; simp only [phE]; exact Nat.le_refl _
    · rw [if_neg ek] at z; cases z
  | .push j x T nm e, k, h, z => by
    simp only [dfind] at z
    by_cases ek : k = j
    · rw [if_pos ek] at z; cases z; simp only [phE, phH]; exact Nat.le_refl _
    · rw [if_neg ek] at z
      have := dfind_ph z
      simp only [phE]; omega
theorem along_ph : ∀ {p : Pt W} {r : W → Option Int} {e : DE W} {es : List (Ev W)} {g : Gs W}, along hm p r e = some (es, g) → es.length + 1 + phH (gsH g) ≤ cnt p + phE e
  | .give j s, r, e, es, g, z => by
    simp only [along] at z
    cases a : tev r s with
    | none => rw [a] at z; cases z
    | some n =>
    cases b : dfind hm e j with
    | none => rw [a, b] at z; cases z
    | some h =>
    rw [a, b] at z
    cases z
    have := dfind_ph b
    simp only [cnt, gsH, List.length_nil]; omega
  | .ask f ss j, r, e, es, g, z => by
    simp only [along] at z
    cases a : tevs r ss with
    | none => rw [a] at z; cases z
    | some n =>
    cases b : dfind hm e j with
    | none => rw [a, b] at z; cases z
    | some h =>
    rw [a, b] at z
    cases z
    have := dfind_ph b
    simp only [cnt, gsH, List.length_nil]; omega
  | .st tl x s T, r, e, es, g, z => by
    simp only [along] at z
    cases a : tev r s with
    | none => rw [a] at z; cases z
    | some n =>
    rw [a] at z
    simp only at z
    cases b : along hm T (fset r x n) e with
    | none => rw [b] at z; cases z
    | some q =>
    obtain ⟨es', g'⟩ := q
    rw [b] at z
    have ih := along_ph b
    cases tl with
    | true => cases z; simp only [cnt, List.length_cons]; omega
    | false => cases z; simp only [cnt]; omega
  | .ite s T U, r, e, es, g, z => by
    simp only [along] at z
    cases a : tev r s with
    | none => rw [a] at z; cases z
    | some n =>
    rw [a] at z
    simp only at z
    by_cases h : n = 0
    · rw [if_pos h] at z
      have ih := along_ph z
      simp only [cnt]; omega
    · rw [if_neg h] at z
      have ih := along_ph z
      simp only [cnt]; omega
  | .post j x T U, r, e, es, g, z => by
    simp only [along] at z
    by_cases h : j = hm
    · rw [if_pos h] at z; cases z
    · rw [if_neg h] at z
      have ih := along_ph z
      simp only [phE] at ih
      simp only [cnt]; omega
/-- on the way nothing is asked -/
def Tells : List (Ev W) → Prop
  | [] => True
  | .tell _ :: r => Tells r
  | .ask _ _ :: _ => False
theorem along_tells : ∀ {p : Pt W} {r : W → Option Int} {e : DE W} {es : List (Ev W)} {g : Gs W}, along hm p r e = some (es, g) → Tells es
  | .give j s, r, e, es, g, z => by
    simp only [along] at z
    cases a : tev r s with
    | none => rw [a] at z; cases z
    | some n =>
    cases b : dfind hm e j with
    | none => rw [a, b] at z; cases z
    | some h => rw [a, b] at z; cases z; trivial
  | .ask f ss j, r, e, es, g, z => by
    simp only [along] at z
    cases a : tevs r ss with
    | none => rw [a] at z; cases z
    | some n =>
    cases b : dfind hm e j with
    | none => rw [a, b] at z; cases z
    | some h => rw [a, b] at z; cases z; trivial
  | .st tl x s T, r, e, es, g, z => by
    simp only [along] at z
    cases a : tev r s with
    | none => rw [a] at z; cases z
    | some n =>
    rw [a] at z
    simp only at z
    cases b : along hm T (fset r x n) e with
    | none => rw [b] at z; cases z
    | some q =>
    obtain ⟨es', g'⟩ := q
    rw [b] at z
    have ih := along_tells b
    cases tl with
    | true => cases z; exact ih
    | false => cases z; exact ih
  | .ite s T U, r, e, es, g, z => by
    simp only [along] at z
    cases a : tev r s with
    | none => rw [a] at z; cases z
    | some n =>
    rw [a] at z
    simp only at z
    by_cases h : n = 0
    · rw [if_pos h] at z; exact along_tells z
    · rw [if_neg h] at z; exact along_tells z
  | .post j x T U, r, e, es, g, z => by
    simp only [along] at z
    by_cases h : j = hm
    · rw [if_pos h] at z; cases z
    · rw [if_neg h] at z; exact along_tells z
variable {bk : W → Option (List W × Pt W)} {most : Nat}
theorem run1_grow {m : Nat} {g : Gs W} {tr : List (Ev W)} {dp many : Nat} {r : Res W} (h : Run1 hm bk most m g tr dp many r) : tr.length ≤ r.tr.length := by
  induction h with
  | fin => exact Nat.le_refl _
  | long _ => exact Nat.le_refl _
  | give _ _ ih => simp only [List.length_append] at ih; omega
  | ask _ _ _ _ _ ih => simp only [List.length_append] at ih; omega
theorem run1_len (hb : ∀ f xs b, bk f = some (xs, b) → cnt b ≤ 31) {m : Nat} {g : Gs W} {tr : List (Ev W)} {dp many : Nat} {r : Res W} (h : Run1 hm bk most m g tr dp many r) : many ≤ most → r.tr.length ≤ tr.length + phH (gsH g) + 32 * (most - many) := by
  induction h with
  | fin => intro _; simp only; omega
  | long e => intro _; simp only; omega
  | give al _ ih =>
    intro l
    have z := along_ph al
    have := ih l
    simp only [List.length_append] at this
    simp only [gsH, phH]
    omega
  | ask ne hbk _ al _ ih =>
    intro l
    have z := along_ph al
    have := ih (by omega)
    simp only [List.length_append, List.length_cons, List.length_nil] at this
    simp only [phE] at z
    have hc := hb _ _ _ hbk
    simp only [gsH]
    omega
def AskIn (ok : W → Prop) : List (Ev W) → Prop
  | [] => True
  | .tell _ :: r => AskIn ok r
  | .ask f _ :: r => ok f ∧ AskIn ok r
theorem askIn_app {ok : W → Prop} : ∀ {a b : List (Ev W)}, AskIn ok a → AskIn ok b → AskIn ok (a ++ b)
  | [], b, _, h => h
  | .tell _ :: a, b, q, h => askIn_app (a := a) q h
  | .ask f _ :: a, b, q, h => ⟨q.1, askIn_app (a := a) q.2 h⟩
theorem tells_in {ok : W → Prop} : ∀ {a : List (Ev W)}, Tells a → AskIn ok a
  | [], _ => trivial
  | .tell _ :: a, h => tells_in (a := a) h
  | .ask _ _ :: a, h => h.elim
theorem run1_asks {ok : W → Prop} (hb : ∀ f xs b, bk f = some (xs, b) → ok f) {m : Nat} {g : Gs W} {tr : List (Ev W)} {dp many : Nat} {r : Res W} (h : Run1 hm bk most m g tr dp many r) : AskIn ok tr → AskIn ok r.tr := by
  induction h with
  | fin => intro q; exact q
  | long e => intro q; exact q
  | give al _ ih => intro q; exact ih (askIn_app q (tells_in (along_tells al)))
  | ask ne hbk _ al _ ih => intro q; exact ih (askIn_app (askIn_app q ⟨hb _ _ _ hbk, trivial⟩) (tells_in (along_tells al)))
theorem tevs_get {r : W → Option Int} : ∀ {ss : List (Tm W)} {ns : List Int}, tevs r ss = some ns → ns.length = ss.length ∧ ∀ (i : Nat) (s : Tm W), ss[i]? = some s → ∃ n : Int, ns[i]? = some n ∧ tev r s = some n
  | [], ns, h => by cases h; exact ⟨rfl, fun i s h => by simp at h⟩
  | s :: ss, ns, h => by
    simp only [tevs] at h
    cases a : tev r s with
    | none => rw [a] at h; cases h
    | some n =>
    rw [a] at h
    simp only at h
    cases b : tevs r ss with
    | none => rw [b] at h; cases h
    | some ms =>
    rw [b] at h
    cases h
    obtain ⟨l, q⟩ := tevs_get b
    refine ⟨by simp [l], fun i t ht => ?_⟩
    cases i with
    | zero => cases ht; exact ⟨n, rfl, a⟩
    | succ i => exact q i t ht
end
end Wn
end
section
set_option Elab.async false
set_option linter.all false
set_option maxRecDepth 100000
set_option maxHeartbeats 2000000
/-! Rules that the hand layer lacks: enumerate(tuple), dict(d) as a call, a text times an int. -/
namespace L2
open PySem PySem.Spec PyProof.Rows

theorem wnr_meets_enum {v : Value} {o : Obj} {H : Heap → Prop} (B : Begins v o H) :
    Meets (Builtin.«enumerate.__new__» ⟨[.type "enumerate", v], []⟩) (fun _ R s => H s.heap ∧
      R (.ok (.ret (.ref (s.heap.push o).objs.size))) { s with heap := (s.heap.push o).push { cls := .type "enumerate", data := .fields #[.none, .bool false, .ref s.heap.objs.size, rawInt 0, .none, .none] } }) :=
  .of_wp fun prog w A R s h => by
    obtain ⟨hp, g, d, tk, os⟩ := s; obtain ⟨h1, h⟩ := h
    have hsub := sub_enumerate
    have q1 : ∀ {A' : Around} {E : Value → Shared → Prop} {Q : Value → Shared → Prop}, Q (.ref hp.objs.size) ⟨hp.push o, g, d, tk, os⟩ → wpAny (model prog w) A' (pyIter v) Q E ⟨hp, g, d, tk, os⟩ :=
      fun q => B.iter prog w _ _ ⟨hp, g, d, tk, os⟩ _ h1 q
    wp_walk using q1
    refine wpAny_stack_any fun st => wpAny_pure ?_
    split
    · rename_i c _ _ _ _ _
      cases (c == Value.type "enumerate")
      · wp_walk using q1
        exact ⟨_, rfl, h⟩
      · wp_walk using q1
        exact ⟨_, rfl, h⟩
    · wp_walk using q1
      exact ⟨_, rfl, h⟩
theorem wnr_enum_begins {prog : Program} {w : World} {A : Around} {E : Value → Shared → Prop} {s : Shared} {v : Value} {o : Obj} {H : Heap → Prop} {Q : Value → Shared → Prop} (B : Begins v o H) (h1 : H s.heap)
    (h : ∀ h', IsEnum h' (s.heap.objs.size + 1) s.heap.objs.size 0 .none → h'.get? s.heap.objs.size = some o → h'.objs.size = s.heap.objs.size + 2 →
      (∀ b o, s.heap.get? b = some o → h'.get? b = some o) → Q (.ref (s.heap.objs.size + 1)) { s with heap := h' }) :
    wpAny (model prog w) A (call (.type "enumerate") [v]) Q E s := by
  refine callType_new F.called_enumerate (by decide) (F.typeCall_enumerate_1 _) (F.newCall_enumerate_1 _) (fun obj => F.args_object_init_2 obj _) F.entry_enumerate_new
    (wnr_meets_enum B) ⟨h1, ?_⟩
  have hz : (s.heap.push o).objs.size = s.heap.objs.size + 1 := Heap.size_push ..
  show _ ∧ _
  rw [hz]
  have he : IsEnum ((s.heap.push o).push { cls := .type "enumerate", data := .fields #[.none, .bool false, .ref s.heap.objs.size, rawInt 0, .none, .none] }) (s.heap.objs.size + 1) s.heap.objs.size 0 .none := by
    have := Heap.get?_push_size (s.heap.push o) (o := { cls := .type "enumerate", data := .fields #[.none, .bool false, .ref s.heap.objs.size, rawInt 0, .none, .none] }) rfl
    rw [hz] at this; exact this
  refine ⟨⟨_, he, rfl⟩, h _ he (Heap.get?_push_of_some _ (Heap.get?_push_size _ B.free)) (by rw [Heap.size_push, hz]) fun b o x => Heap.get?_push_of_some _ (Heap.get?_push_of_some _ x)⟩

/-! ### enumerate(tuple) -/
def Itet (K : PySem.W.Frag) (a : Addr) : It :=
  ⟨fun i H => ∃ (xs : List V) (x : V), SqT K H a xs ∧ xs[i]? = some x, fun i H v H' => ∃ T x, v = .ref T ∧ H T = none ∧ H' = upd H T (.tup [.int (i : Nat), x]) ∧ ∀ xs, SqT K H a xs → xs[i]? = some x, fun i H => ∃ xs : List V, SqT K H a xs ∧ xs.length ≤ i⟩
theorem turn_enumT {P : Program} {w : World} {K : PySem.W.Frag} {elts : List Expr} {kk : Nat} {tpos : Pos} (a e it : Addr) (hae : a ≠ e) (hai : a ≠ it) :
    Turn P w K (.Tuple elts kk tpos) (Itet K a) [e, it] e (fun i h => (∃ old, IsEnum h e it ((i : Nat) : Int) old) ∧ h.IsTupleIter it a i ∧ e ≠ it) where
  mem := by simp
  obj := fun i h st b hb => by
    obtain ⟨⟨old, he⟩, ⟨o, ho, hc, hd⟩, _⟩ := st
    have e' : b = e ∨ b = it := by simpa using hb
    rcases e' with z | z
    · rw [z]; exact ⟨_, he, fun v q => nomatch q⟩
    · rw [z]; exact ⟨o, ho, fun v q => by rw [hd] at q; cases q⟩
  keep := fun i h h' st k => let ⟨⟨old, he⟩, hi, hne⟩ := st; ⟨⟨old, k e (by simp) _ he⟩, hi.at fun o q => k it (by simp) o q, hne⟩
  item := by
    intro X hP hw hK hc i pins s σ H E I hf st hg
    subst hP hw hK
    obtain ⟨⟨old, he⟩, hit, hne⟩ := st
    obtain ⟨xs, x, hq, hx⟩ := hg
    obtain ⟨its, rv, p, hz⟩ := I.tuple hq
    obtain ⟨u, hu, ru⟩ := rv.get hx
    have hel : e < s.heap.objs.size := Heap.lt_size he
    have hil : it < s.heap.objs.size := by obtain ⟨_, q, _⟩ := hit; exact Heap.lt_size q
    have hli : i < its.toArray.size := by
      have := (List.getElem?_eq_some_iff.mp hu).1
      simpa using this
    have D : Draws X.prog X.w X.A.in1 it [it, a] its.toArray.size (fun i v => its.toArray[i]? = some v) (fun i h => h.IsTupleIter it a i ∧ h.IsTuple a its.toArray) := Draws.tuple (show X.A.in1.handled = none from I.ok.hd hc) it a hai its.toArray
    refine wpAny_pyNext_enum_itemD D he ⟨hit, show s.heap.IsTuple a its.toArray from p⟩ hli hne (by simp [hne, Ne.symm hae]) fun x' h' tk hP ho hst' hT hsz hk => ?_
    have ex : x' = u := by
      have z1 : its[i]? = some x' := by simpa using hP
      rw [hu] at z1
      exact (Option.some.inj z1).symm
    subst ex
    refine ⟨_, rfl, wpAny_letOwnedTupleGo_enum (s := { s with heap := h', toks := tk + 1 }) ho fun h'' he' sb => ?_⟩
    have hT2 : h''.get? s.heap.objs.size = some { cls := .type "tuple", data := .seq #[.int i tk, x'] } := (sb.2 _ (Nat.ne_of_gt hel)).trans hT
    have new : ObjOk X.prog X.w (upd H s.heap.objs.size (.tup [.int (i : Nat), x])) h'' s.heap.objs.size (.tup [.int (i : Nat), x]) :=
      ⟨by show 2 ≤ sizeLine; decide, [.int i tk, x'], .cons ⟨_, rfl⟩ (.cons ru .nil), ⟨_, hT2, rfl, _, rfl⟩⟩
    have I1 : Inv X pins σ (upd H s.heap.objs.size (.tup [.int (i : Nat), x])) { s with heap := h'', toks := tk + 1 } :=
      I.turnedNew (ch := [e, it]) (fun b ob hb q => (sb.2 b (fun z => hb (by simp [z]))).trans (hk b ob (fun z => hb (by simp [z])) (fun z => hb (by simp [z])) q)) hf (Nat.le_refl _) new
    refine ⟨.ref s.heap.objs.size, _, I1, rfl, ⟨_, x, rfl, I.hok.fresh (Nat.le_refl _), rfl, fun ys hy => by rw [I.tuple_inj hy hq]; exact hx⟩, ⟨⟨x', ?_⟩, hst'.1.at fun o q => (sb.2 it (Ne.symm hne)).trans q, hne⟩, fun b hb => ?_⟩
    · have e1 : ((i + 1 : Nat) : Int) = (i : Int) + 1 := by omega
      rw [e1]; exact he'
    · have hb' : b < s.heap.objs.size := by
        have e' : b = e ∨ b = it := by simpa using hb
        rcases e' with z | z
        · rw [z]; exact hel
        · rw [z]; exact hil
      rw [upd_ne (Nat.ne_of_lt hb')]
      exact (hf b hb).1
  done := by
    intro X hP hw hK hc i pins s σ H E I hf st hg
    subst hP hw hK
    obtain ⟨⟨old, he⟩, hit, hne⟩ := st
    obtain ⟨xs, hq, hx⟩ := hg
    obtain ⟨its, rv, p, hz⟩ := I.tuple hq
    obtain ⟨f0, f1, f2, f3, f4, f5⟩ := hf it (by simp)
    have hl := rv.length
    have hT : s.TypeIs (.ref e) "enumerate" := ⟨_, he, rfl⟩
    unfold pyNext
    refine wpAny_bind (wpAny_attempt (wpAny_callSpecial?_slot (name := Str.ofString "__next__") hT F.slot_enumerate_next
      (wpAny_call_entry F.slot_enumerate_next hT F.entry_enumerate_next ?_ (F.args_enumerate_next_1 _))))
    show wpAny _ _ (field (.ref e) 2 >>= _) _ _ _
    refine wpAny_bind (wpAny_field he rfl (x := .ref it) rfl ?_)
    refine wpAny_bind (wpAny_nextOf_tuple_end (show X.A.in1.handled = none from I.ok.hd hc) hit (show s.heap.IsTuple a its.toArray from p) (by simp; omega) fun h' x he' hx' => ?_)
    obtain ⟨o, ho, hcl⟩ := hx'
    refine wpAny_bind (wpAny_isInstance (T := "StopIteration") (b := true) ⟨o, ho, hcl⟩ isSubtype_stop ?_)
    exact wpAny_pure ⟨rfl, I.turned (t' := s.toks) (fun b o hb q => he' b o hb q) f0 f1 f3 f4 f5⟩
  self := fun A i s Q E st h => let ⟨⟨_, he⟩, _⟩ := st; wpAny_pyIter_enum he h
def iEnumT (K : PySem.W.Frag) (ta : TA) : TI := fun σ H R => ta σ H fun vs H1 => ∃ a xs, vs = [.ref a] ∧ SqT K H1 a xs ∧ R (Itet K a) H1
theorem pi_enumT {X : Cx} {e : Expr} {ta : TA} {p pos tpos : Pos} {elts : List Expr} {kk : Nat} (hg : Gl X "enumerate") (hm : X.mg "enumerate" = none) (ha : PA X [e] ta) (hs : starEach [e] X.env = [(false, eval e X.env)] := by rfl) :
    PI X (.Tuple elts kk tpos) (.Call (.Name "enumerate" p) [e] [] pos) (iEnumT X.K ta) := by
  refine ⟨fun pins s σ H R I h => ?_⟩
  refine Call_ (ld_blt I hg hm boot_enumerate (PyProof.Rows.callWith_type1 (thn (ha.run pos pins s σ H _ I h) fun us s1 ⟨vs, H1, I1, r1, q1⟩ => ?_) hs rfl))
  obtain ⟨a, xs, ex, hq, q⟩ := q1
  subst ex
  cases r1 with
  | cons r rr =>
    cases rr
    cases r
    obtain ⟨its, rv, p', hz⟩ := I1.tuple hq
    have hlt : a < s1.heap.objs.size := p'.lt
    refine wnr_enum_begins (begins_tuple a its.toArray) (show s1.heap.IsTuple a its.toArray from p') fun h' he hit hsz hk => wpAny_pyIter_enum he ?_
    have I2 : Inv X pins σ H1 { s1 with heap := h' } := I1.kept (t' := s1.toks) hk
    refine ⟨s1.heap.objs.size + 1, [s1.heap.objs.size + 1, s1.heap.objs.size], _, _, H1, rfl, I2, turn_enumT a (s1.heap.objs.size + 1) s1.heap.objs.size (Nat.ne_of_lt (Nat.lt_succ_of_lt hlt)) (Nat.ne_of_lt hlt), ⟨⟨.none, he⟩, ⟨_, hit, rfl, rfl⟩, Nat.succ_ne_self _⟩, fun b hb => ?_, q⟩
    have e' : b = s1.heap.objs.size + 1 ∨ b = s1.heap.objs.size := by simpa using hb
    have hle : s1.heap.objs.size ≤ b := by
      rcases e' with z | z
      · rw [z]; exact Nat.le_add_right _ _
      · rw [z]; exact Nat.le_refl _
    exact I1.fpOk hle (I1.hok.fresh hle)

/-! ### dict(d) -/
theorem call_dictOf {X : Cx} : CallR X (.type "dict") (fun xs H Q => ∃ (a : Addr) (kvs : List (Key × V)), xs = [.ref a] ∧ Rd H a (.dK kvs) ∧ ∀ p, H p = none → Q (.ref p) (upd H p (.dK kvs))) := by
  intro pins s σ H xs us Q I r h
  obtain ⟨a, kvs, rfl, e, q⟩ := h
  obtain ⟨u, rfl, ru⟩ := vals1 r
  cases (show u = Value.ref a from ru)
  exact d_copyOf I e fun p s' hp I' => ⟨.ref p, _, I', rfl, q p hp⟩
end L2
end
section
set_option Elab.async false
set_option linter.all false
set_option maxRecDepth 100000
set_option maxHeartbeats 4000000
/-! The text by places, the scopes, the facts of the written part (printed by gen.py). -/
namespace Wn
open PySem L2
def top (i : Nat) : Stmt := PySem.Challenge.pw_whatnext_k33_whole_laid_is_straight.main.body.getD i (.Pass ⟨0, 0, 0, 0⟩)
abbrev s_Bent_init : Stmt := inClass (top 2) 0
theorem sc_Bent_init : FnScope ["self", "place"] ["self", "place"] (defScope s_Bent_init) := ⟨rfl, rfl, rfl, by decide +kernel, rfl, by decide +kernel, by decide +kernel⟩
abbrev s_TooGreat_init : Stmt := inClass (top 3) 0
theorem sc_TooGreat_init : FnScope ["self", "name"] ["self", "name"] (defScope s_TooGreat_init) := ⟨rfl, rfl, rfl, by decide +kernel, rfl, by decide +kernel, by decide +kernel⟩
abbrev s_parts_of : Stmt := top 6
theorem sc_parts_of : FnScope ["term"] ["term"] (defScope s_parts_of) := ⟨rfl, rfl, rfl, by decide +kernel, rfl, by decide +kernel, by decide +kernel⟩
abbrev s_places_in : Stmt := top 7
theorem sc_places_in : FnScope ["term", "place", "found", "number", "part"] ["term", "place"] (defScope s_places_in) := ⟨rfl, rfl, rfl, by decide +kernel, rfl, by decide +kernel, by decide +kernel⟩
abbrev s_inner_turned : Stmt := top 10
theorem sc_inner_turned : FnScope ["part"] ["part"] (defScope s_inner_turned) := ⟨rfl, rfl, rfl, by decide +kernel, rfl, by decide +kernel, by decide +kernel⟩
abbrev s_inner_simple : Stmt := top 11
theorem sc_inner_simple : FnScope ["part"] ["part"] (defScope s_inner_simple) := ⟨rfl, rfl, rfl, by decide +kernel, rfl, by decide +kernel, by decide +kernel⟩
abbrev s_hand_of : Stmt := top 12
theorem sc_hand_of : FnScope ["part"] ["part"] (defScope s_hand_of) := ⟨rfl, rfl, rfl, by decide +kernel, rfl, by decide +kernel, by decide +kernel⟩
abbrev s_word_of : Stmt := top 14
theorem sc_word_of : FnScope ["k", "found"] ["k"] (defScope s_word_of) := ⟨rfl, rfl, rfl, by decide +kernel, rfl, by decide +kernel, by decide +kernel⟩
abbrev s_term_by : Stmt := top 15
theorem sc_term_by : FnScope ["term", "words", "part"] ["term", "words"] (defScope s_term_by) := ⟨rfl, rfl, rfl, by decide +kernel, rfl, by decide +kernel, by decide +kernel⟩
abbrev s_is_laid_part : Stmt := top 18
theorem sc_is_laid_part : FnScope ["part", "one"] ["part"] (defScope s_is_laid_part) := ⟨rfl, rfl, rfl, by decide +kernel, rfl, by decide +kernel, by decide +kernel⟩
abbrev s_is_laid : Stmt := top 19
theorem sc_is_laid : FnScope ["turned_book", "name", "names", "body"] ["turned_book"] (defScope s_is_laid) := ⟨rfl, rfl, rfl, by decide +kernel, rfl, by decide +kernel, by decide +kernel⟩
abbrev s_Layer_init : Stmt := inClass (top 20) 0
theorem sc_Layer_init : FnScope ["self", "name", "names"] ["self", "name", "names"] (defScope s_Layer_init) := ⟨rfl, rfl, rfl, by decide +kernel, rfl, by decide +kernel, by decide +kernel⟩
abbrev s_Layer_new_word : Stmt := inClass (top 20) 1
theorem sc_Layer_new_word : FnScope ["self"] ["self"] (defScope s_Layer_new_word) := ⟨rfl, rfl, rfl, by decide +kernel, rfl, by decide +kernel, by decide +kernel⟩
abbrev s_Layer_new_hand : Stmt := inClass (top 20) 2
theorem sc_Layer_new_hand : FnScope ["self"] ["self"] (defScope s_Layer_new_hand) := ⟨rfl, rfl, rfl, by decide +kernel, rfl, by decide +kernel, by decide +kernel⟩
abbrev s_Layer_count_part : Stmt := inClass (top 20) 3
theorem sc_Layer_count_part : FnScope ["self", "some", "one"] ["self", "some"] (defScope s_Layer_count_part) := ⟨rfl, rfl, rfl, by decide +kernel, rfl, by decide +kernel, by decide +kernel⟩
abbrev s_Layer_lay : Stmt := inClass (top 20) 4
theorem sc_Layer_lay : FnScope ["self", "part", "words", "hands", "inner", "one", "some"] ["self", "part", "words", "hands"] (defScope s_Layer_lay) := ⟨rfl, rfl, rfl, by decide +kernel, rfl, by decide +kernel, by decide +kernel⟩
abbrev s_Layer_lay_give : Stmt := inClass (top 20) 5
theorem sc_Layer_lay_give : FnScope ["self", "term", "hand", "word"] ["self", "term", "hand"] (defScope s_Layer_lay_give) := ⟨rfl, rfl, rfl, by decide +kernel, rfl, by decide +kernel, by decide +kernel⟩
abbrev s_Layer_lay_ask : Stmt := inClass (top 20) 6
theorem sc_Layer_lay_ask : FnScope ["self", "f", "some", "hand", "here", "word"] ["self", "f", "some", "hand"] (defScope s_Layer_lay_ask) := ⟨rfl, rfl, rfl, by decide +kernel, rfl, by decide +kernel, by decide +kernel⟩
abbrev s_Layer_lay_on : Stmt := inClass (top 20) 7
theorem sc_Layer_lay_on : FnScope ["self", "hand", "word", "x", "part", "words", "hands", "inner"] ["self", "hand", "word"] (defScope s_Layer_lay_on) := ⟨rfl, rfl, rfl, by decide +kernel, rfl, by decide +kernel, by decide +kernel⟩
abbrev s_laid : Stmt := top 21
theorem sc_laid : FnScope ["turned_book", "found", "name", "names", "body", "words", "one"] ["turned_book"] (defScope s_laid) := ⟨rfl, rfl, rfl, by decide +kernel, rfl, by decide +kernel, by decide +kernel⟩
abbrev s_bent_in : Stmt := top 23
theorem sc_bent_in : FnScope ["part", "place", "due", "first", "number", "one", "here", "found"] ["part", "place", "due"] (defScope s_bent_in) := ⟨rfl, rfl, rfl, by decide +kernel, rfl, by decide +kernel, by decide +kernel⟩
abbrev s_bent_at : Stmt := top 24
theorem sc_bent_at : FnScope ["turned_book", "name", "names", "body", "found"] ["turned_book"] (defScope s_bent_at) := ⟨rfl, rfl, rfl, by decide +kernel, rfl, by decide +kernel, by decide +kernel⟩
abbrev s_part_back : Stmt := top 25
theorem sc_part_back : FnScope ["part"] ["part"] (defScope s_part_back) := ⟨rfl, rfl, rfl, by decide +kernel, rfl, by decide +kernel, by decide +kernel⟩
abbrev s_back : Stmt := top 26
theorem sc_back : FnScope ["turned_book", "place", "name", "names", "body"] ["turned_book"] (defScope s_back) := ⟨rfl, rfl, rfl, by decide +kernel, rfl, by decide +kernel, by decide +kernel⟩
abbrev s_Lcell_at : Stmt := top 28
theorem sc_Lcell_at : FnScope ["script", "k"] ["script", "k"] (defScope s_Lcell_at) := ⟨rfl, rfl, rfl, by decide +kernel, rfl, by decide +kernel, by decide +kernel⟩
abbrev s_Ltape : Stmt := top 29
theorem sc_Ltape : FnScope ["script", "k", "cell", "p", "one", "found", "turn"] ["script", "k"] (defScope s_Ltape) := ⟨rfl, rfl, rfl, by decide +kernel, rfl, by decide +kernel, by decide +kernel⟩
abbrev s_Ldigit : Stmt := top 30
theorem sc_Ldigit : FnScope ["tape", "many", "found"] ["tape", "many"] (defScope s_Ldigit) := ⟨rfl, rfl, rfl, by decide +kernel, rfl, by decide +kernel, by decide +kernel⟩
abbrev s_Lwords : Stmt := top 31
theorem sc_Lwords : FnScope ["tape", "many", "letters", "way", "turn", "ends", "some", "k"] ["tape", "many"] (defScope s_Lwords) := ⟨rfl, rfl, rfl, by decide +kernel, rfl, by decide +kernel, by decide +kernel⟩
abbrev s_Lnumber : Stmt := top 32
theorem sc_Lnumber : FnScope ["tape", "way"] ["tape"] (defScope s_Lnumber) := ⟨rfl, rfl, rfl, by decide +kernel, rfl, by decide +kernel, by decide +kernel⟩
abbrev s_Lleaf : Stmt := top 33
theorem sc_Lleaf : FnScope ["tape", "known", "around"] ["tape", "known", "around"] (defScope s_Lleaf) := ⟨rfl, rfl, rfl, by decide +kernel, rfl, by decide +kernel, by decide +kernel⟩
abbrev s_Lshares : Stmt := top 34
theorem sc_Lshares : FnScope ["tape", "room", "many", "found", "left", "k", "more"] ["tape", "room", "many"] (defScope s_Lshares) := ⟨rfl, rfl, rfl, by decide +kernel, rfl, by decide +kernel, by decide +kernel⟩
abbrev s_Lless_one : Stmt := top 35
theorem sc_Lless_one : FnScope ["around"] ["around"] (defScope s_Lless_one) := ⟨rfl, rfl, rfl, by decide +kernel, rfl, by decide +kernel, by decide +kernel⟩
abbrev s_Lnumbers : Stmt := top 36
theorem sc_Lnumbers : FnScope ["tape", "many", "k"] ["tape", "many"] (defScope s_Lnumbers) := ⟨rfl, rfl, rfl, by decide +kernel, rfl, by decide +kernel, by decide +kernel⟩
abbrev s_Lparts : Stmt := top 37
theorem sc_Lparts : FnScope ["term"] ["term"] (defScope s_Lparts) := ⟨rfl, rfl, rfl, by decide +kernel, rfl, by decide +kernel, by decide +kernel⟩
abbrev s_Lon : Stmt := top 38
theorem sc_Lon : FnScope ["term", "names", "info", "rest", "parts"] ["term", "names", "info", "rest"] (defScope s_Lon) := ⟨rfl, rfl, rfl, by decide +kernel, rfl, by decide +kernel, by decide +kernel⟩
abbrev s_Lasked : Stmt := top 39
theorem sc_Lasked : FnScope ["now", "f", "numbers", "height", "names", "body", "inner", "k"] ["now", "f", "numbers", "height"] (defScope s_Lasked) := ⟨rfl, rfl, rfl, by decide +kernel, rfl, by decide +kernel, by decide +kernel⟩
abbrev s_Lapply : Stmt := top 40
theorem sc_Lapply : FnScope ["now", "term", "info", "numbers"] ["now", "term", "info", "numbers"] (defScope s_Lapply) := ⟨rfl, rfl, rfl, by decide +kernel, rfl, by decide +kernel, by decide +kernel⟩
abbrev s_Lput_in : Stmt := top 41
theorem sc_Lput_in : FnScope ["now", "number", "rest", "term", "names", "info", "done", "inner", "parts"] ["now", "number", "rest"] (defScope s_Lput_in) := ⟨rfl, rfl, rfl, by decide +kernel, rfl, by decide +kernel, by decide +kernel⟩
abbrev s_Lrun : Stmt := top 42
theorem sc_Lrun : FnScope ["book", "f", "numbers", "most", "now", "name", "names", "body", "at", "rest"] ["book", "f", "numbers", "most"] (defScope s_Lrun) := ⟨rfl, rfl, rfl, by decide +kernel, rfl, by decide +kernel, by decide +kernel⟩
abbrev s_Lvalue : Stmt := top 43
theorem sc_Lvalue : FnScope ["term", "names", "one", "other"] ["term", "names"] (defScope s_Lvalue) := ⟨rfl, rfl, rfl, by decide +kernel, rfl, by decide +kernel, by decide +kernel⟩
abbrev s_Lturned_run : Stmt := top 44
theorem sc_Lturned_run : FnScope ["turned", "f", "numbers", "most", "errands", "name", "names", "part", "now", "goes", "words", "k", "hands", "height", "x"] ["turned", "f", "numbers", "most"] (defScope s_Lturned_run) := ⟨rfl, rfl, rfl, by decide +kernel, rfl, by decide +kernel, by decide +kernel⟩
abbrev s_Lalong : Stmt := top 45
theorem sc_Lalong : FnScope ["now", "part", "names", "hands", "one"] ["now", "part", "names", "hands"] (defScope s_Lalong) := ⟨rfl, rfl, rfl, by decide +kernel, rfl, by decide +kernel, by decide +kernel⟩
abbrev s_Lsimple : Stmt := top 46
theorem sc_Lsimple : FnScope ["tape", "around", "deep", "one"] ["tape", "around", "deep"] (defScope s_Lsimple) := ⟨rfl, rfl, rfl, by decide +kernel, rfl, by decide +kernel, by decide +kernel⟩
abbrev s_Lsome_hand : Stmt := top 47
theorem sc_Lsome_hand : FnScope ["tape", "known", "hands"] ["tape", "known", "hands"] (defScope s_Lsome_hand) := ⟨rfl, rfl, rfl, by decide +kernel, rfl, by decide +kernel, by decide +kernel⟩
abbrev s_Lend : Stmt := top 48
theorem sc_Lend : FnScope ["tape", "known", "around", "hands", "f", "hand", "some", "k"] ["tape", "known", "around", "hands"] (defScope s_Lend) := ⟨rfl, rfl, rfl, by decide +kernel, rfl, by decide +kernel, by decide +kernel⟩
abbrev s_Lpart : Stmt := top 49
theorem sc_Lpart : FnScope ["tape", "known", "around", "hands", "room", "deep", "word", "choice", "shares", "one", "x", "j", "term"] ["tape", "known", "around", "hands", "room", "deep"] (defScope s_Lpart) := ⟨rfl, rfl, rfl, by decide +kernel, rfl, by decide +kernel, by decide +kernel⟩
abbrev s_Lturned_body : Stmt := top 50
theorem sc_Lturned_body : FnScope ["tape", "known", "names", "one", "two"] ["tape", "known", "names"] (defScope s_Lturned_body) := ⟨rfl, rfl, rfl, by decide +kernel, rfl, by decide +kernel, by decide +kernel⟩
abbrev s_Lmany_parts : Stmt := top 51
theorem sc_Lmany_parts : FnScope ["part", "inner", "one"] ["part"] (defScope s_Lmany_parts) := ⟨rfl, rfl, rfl, by decide +kernel, rfl, by decide +kernel, by decide +kernel⟩
abbrev s_Lturned_book : Stmt := top 52
theorem sc_Lturned_book : FnScope ["script", "start", "straight", "head", "errands", "heads", "f", "room", "found", "k", "tape", "words", "names", "known", "body"] ["script", "start", "straight"] (defScope s_Lturned_book) := ⟨rfl, rfl, rfl, by decide +kernel, rfl, by decide +kernel, by decide +kernel⟩
abbrev s_Lshape_term : Stmt := top 53
theorem sc_Lshape_term : FnScope ["term", "words", "one"] ["term", "words"] (defScope s_Lshape_term) := ⟨rfl, rfl, rfl, by decide +kernel, rfl, by decide +kernel, by decide +kernel⟩
abbrev s_Lshape_part : Stmt := top 54
theorem sc_Lshape_part : FnScope ["part", "words", "hands", "now", "one", "choice", "inner", "x", "term", "posts"] ["part", "words", "hands", "now"] (defScope s_Lshape_part) := ⟨rfl, rfl, rfl, by decide +kernel, rfl, by decide +kernel, by decide +kernel⟩
abbrev s_Lshape : Stmt := top 55
theorem sc_Lshape : FnScope ["turned", "found", "name", "names", "body", "words", "word"] ["turned"] (defScope s_Lshape) := ⟨rfl, rfl, rfl, by decide +kernel, rfl, by decide +kernel, by decide +kernel⟩
abbrev s_Lfirst_runs : Stmt := top 56
theorem sc_Lfirst_runs : FnScope ["script", "turned", "tape", "found", "name", "names", "body", "most"] ["script", "turned"] (defScope s_Lfirst_runs) := ⟨rfl, rfl, rfl, by decide +kernel, rfl, by decide +kernel, by decide +kernel⟩
abbrev s_Ltold : Stmt := top 57
theorem sc_Ltold : FnScope ["some", "found"] ["some"] (defScope s_Ltold) := ⟨rfl, rfl, rfl, by decide +kernel, rfl, by decide +kernel, by decide +kernel⟩
abbrev s_law : Stmt := top 58
theorem sc_law : FnScope ["script", "some", "found", "again", "book", "f", "numbers", "most", "one"] ["script"] (defScope s_law) := ⟨rfl, rfl, rfl, by decide +kernel, rfl, by decide +kernel, by decide +kernel⟩
/-- where the defs stand, what the names hold -/
structure Tx (K : PySem.W.Frag) (mg : Str → Option Value) (ad : Nat → Addr) (fd : Nat → FuncData) (cL cT cN cB : Addr) : Prop where
  F_Bent_init : Fun K "__init__" "Bent.__init__" s_Bent_init (ad 0) (fd 0)
  F_TooGreat_init : Fun K "__init__" "TooGreat.__init__" s_TooGreat_init (ad 1) (fd 1)
  F_parts_of : Fun K "parts_of" "parts_of" s_parts_of (ad 2) (fd 2)
  m_parts_of : mg "parts_of" = some (.ref (ad 2))
  F_places_in : Fun K "places_in" "places_in" s_places_in (ad 3) (fd 3)
  m_places_in : mg "places_in" = some (.ref (ad 3))
  F_inner_turned : Fun K "inner_turned" "inner_turned" s_inner_turned (ad 4) (fd 4)
  m_inner_turned : mg "inner_turned" = some (.ref (ad 4))
  F_inner_simple : Fun K "inner_simple" "inner_simple" s_inner_simple (ad 5) (fd 5)
  m_inner_simple : mg "inner_simple" = some (.ref (ad 5))
  F_hand_of : Fun K "hand_of" "hand_of" s_hand_of (ad 6) (fd 6)
  m_hand_of : mg "hand_of" = some (.ref (ad 6))
  F_word_of : Fun K "word_of" "word_of" s_word_of (ad 7) (fd 7)
  m_word_of : mg "word_of" = some (.ref (ad 7))
  F_term_by : Fun K "term_by" "term_by" s_term_by (ad 8) (fd 8)
  m_term_by : mg "term_by" = some (.ref (ad 8))
  F_is_laid_part : Fun K "is_laid_part" "is_laid_part" s_is_laid_part (ad 9) (fd 9)
  m_is_laid_part : mg "is_laid_part" = some (.ref (ad 9))
  F_is_laid : Fun K "is_laid" "is_laid" s_is_laid (ad 10) (fd 10)
  m_is_laid : mg "is_laid" = some (.ref (ad 10))
  F_Layer_init : Fun K "__init__" "Layer.__init__" s_Layer_init (ad 11) (fd 11)
  F_Layer_new_word : Fun K "new_word" "Layer.new_word" s_Layer_new_word (ad 12) (fd 12)
  me_new_word : Meth K cL "new_word" (ad 12)
  F_Layer_new_hand : Fun K "new_hand" "Layer.new_hand" s_Layer_new_hand (ad 13) (fd 13)
  me_new_hand : Meth K cL "new_hand" (ad 13)
  F_Layer_count_part : Fun K "count_part" "Layer.count_part" s_Layer_count_part (ad 14) (fd 14)
  me_count_part : Meth K cL "count_part" (ad 14)
  F_Layer_lay : Fun K "lay" "Layer.lay" s_Layer_lay (ad 15) (fd 15)
  me_lay : Meth K cL "lay" (ad 15)
  F_Layer_lay_give : Fun K "lay_give" "Layer.lay_give" s_Layer_lay_give (ad 16) (fd 16)
  me_lay_give : Meth K cL "lay_give" (ad 16)
  F_Layer_lay_ask : Fun K "lay_ask" "Layer.lay_ask" s_Layer_lay_ask (ad 17) (fd 17)
  me_lay_ask : Meth K cL "lay_ask" (ad 17)
  F_Layer_lay_on : Fun K "lay_on" "Layer.lay_on" s_Layer_lay_on (ad 18) (fd 18)
  me_lay_on : Meth K cL "lay_on" (ad 18)
  F_laid : Fun K "laid" "laid" s_laid (ad 19) (fd 19)
  m_laid : mg "laid" = some (.ref (ad 19))
  F_bent_in : Fun K "bent_in" "bent_in" s_bent_in (ad 20) (fd 20)
  m_bent_in : mg "bent_in" = some (.ref (ad 20))
  F_bent_at : Fun K "bent_at" "bent_at" s_bent_at (ad 21) (fd 21)
  m_bent_at : mg "bent_at" = some (.ref (ad 21))
  F_part_back : Fun K "part_back" "part_back" s_part_back (ad 22) (fd 22)
  m_part_back : mg "part_back" = some (.ref (ad 22))
  F_back : Fun K "back" "back" s_back (ad 23) (fd 23)
  m_back : mg "back" = some (.ref (ad 23))
  F_Lcell_at : Fun K "_law_cell_at" "_law_cell_at" s_Lcell_at (ad 24) (fd 24)
  m_Lcell_at : mg "_law_cell_at" = some (.ref (ad 24))
  F_Ltape : Fun K "_law_tape" "_law_tape" s_Ltape (ad 25) (fd 25)
  m_Ltape : mg "_law_tape" = some (.ref (ad 25))
  F_Ldigit : Fun K "_law_digit" "_law_digit" s_Ldigit (ad 26) (fd 26)
  m_Ldigit : mg "_law_digit" = some (.ref (ad 26))
  F_Lwords : Fun K "_law_words" "_law_words" s_Lwords (ad 27) (fd 27)
  m_Lwords : mg "_law_words" = some (.ref (ad 27))
  F_Lnumber : Fun K "_law_number" "_law_number" s_Lnumber (ad 28) (fd 28)
  m_Lnumber : mg "_law_number" = some (.ref (ad 28))
  F_Lleaf : Fun K "_law_leaf" "_law_leaf" s_Lleaf (ad 29) (fd 29)
  m_Lleaf : mg "_law_leaf" = some (.ref (ad 29))
  F_Lshares : Fun K "_law_shares" "_law_shares" s_Lshares (ad 30) (fd 30)
  m_Lshares : mg "_law_shares" = some (.ref (ad 30))
  F_Lless_one : Fun K "_law_less_one" "_law_less_one" s_Lless_one (ad 31) (fd 31)
  m_Lless_one : mg "_law_less_one" = some (.ref (ad 31))
  F_Lnumbers : Fun K "_law_numbers" "_law_numbers" s_Lnumbers (ad 32) (fd 32)
  m_Lnumbers : mg "_law_numbers" = some (.ref (ad 32))
  F_Lparts : Fun K "_law_parts" "_law_parts" s_Lparts (ad 33) (fd 33)
  m_Lparts : mg "_law_parts" = some (.ref (ad 33))
  F_Lon : Fun K "_law_on" "_law_on" s_Lon (ad 34) (fd 34)
  m_Lon : mg "_law_on" = some (.ref (ad 34))
  F_Lasked : Fun K "_law_asked" "_law_asked" s_Lasked (ad 35) (fd 35)
  m_Lasked : mg "_law_asked" = some (.ref (ad 35))
  F_Lapply : Fun K "_law_apply" "_law_apply" s_Lapply (ad 36) (fd 36)
  m_Lapply : mg "_law_apply" = some (.ref (ad 36))
  F_Lput_in : Fun K "_law_put_in" "_law_put_in" s_Lput_in (ad 37) (fd 37)
  m_Lput_in : mg "_law_put_in" = some (.ref (ad 37))
  F_Lrun : Fun K "_law_run" "_law_run" s_Lrun (ad 38) (fd 38)
  m_Lrun : mg "_law_run" = some (.ref (ad 38))
  F_Lvalue : Fun K "_law_value" "_law_value" s_Lvalue (ad 39) (fd 39)
  m_Lvalue : mg "_law_value" = some (.ref (ad 39))
  F_Lturned_run : Fun K "_law_turned_run" "_law_turned_run" s_Lturned_run (ad 40) (fd 40)
  m_Lturned_run : mg "_law_turned_run" = some (.ref (ad 40))
  F_Lalong : Fun K "_law_along" "_law_along" s_Lalong (ad 41) (fd 41)
  m_Lalong : mg "_law_along" = some (.ref (ad 41))
  F_Lsimple : Fun K "_law_simple" "_law_simple" s_Lsimple (ad 42) (fd 42)
  m_Lsimple : mg "_law_simple" = some (.ref (ad 42))
  F_Lsome_hand : Fun K "_law_some_hand" "_law_some_hand" s_Lsome_hand (ad 43) (fd 43)
  m_Lsome_hand : mg "_law_some_hand" = some (.ref (ad 43))
  F_Lend : Fun K "_law_end" "_law_end" s_Lend (ad 44) (fd 44)
  m_Lend : mg "_law_end" = some (.ref (ad 44))
  F_Lpart : Fun K "_law_part" "_law_part" s_Lpart (ad 45) (fd 45)
  m_Lpart : mg "_law_part" = some (.ref (ad 45))
  F_Lturned_body : Fun K "_law_turned_body" "_law_turned_body" s_Lturned_body (ad 46) (fd 46)
  m_Lturned_body : mg "_law_turned_body" = some (.ref (ad 46))
  F_Lmany_parts : Fun K "_law_many_parts" "_law_many_parts" s_Lmany_parts (ad 47) (fd 47)
  m_Lmany_parts : mg "_law_many_parts" = some (.ref (ad 47))
  F_Lturned_book : Fun K "_law_turned_book" "_law_turned_book" s_Lturned_book (ad 48) (fd 48)
  m_Lturned_book : mg "_law_turned_book" = some (.ref (ad 48))
  F_Lshape_term : Fun K "_law_shape_term" "_law_shape_term" s_Lshape_term (ad 49) (fd 49)
  m_Lshape_term : mg "_law_shape_term" = some (.ref (ad 49))
  F_Lshape_part : Fun K "_law_shape_part" "_law_shape_part" s_Lshape_part (ad 50) (fd 50)
  m_Lshape_part : mg "_law_shape_part" = some (.ref (ad 50))
  F_Lshape : Fun K "_law_shape" "_law_shape" s_Lshape (ad 51) (fd 51)
  m_Lshape : mg "_law_shape" = some (.ref (ad 51))
  F_Lfirst_runs : Fun K "_law_first_runs" "_law_first_runs" s_Lfirst_runs (ad 52) (fd 52)
  m_Lfirst_runs : mg "_law_first_runs" = some (.ref (ad 52))
  F_Ltold : Fun K "_law_told" "_law_told" s_Ltold (ad 53) (fd 53)
  m_Ltold : mg "_law_told" = some (.ref (ad 53))
  F_law : Fun K "law" "law" s_law (ad 54) (fd 54)
  m_law : mg "law" = some (.ref (ad 54))
  z_len : mg "len" = none
  z_enumerate : mg "enumerate" = none
  z_tuple : mg "tuple" = none
  z_all : mg "all" = none
  z_sum : mg "sum" = none
  z_dict : mg "dict" = none
  z_list : mg "list" = none
  z_range : mg "range" = none
  z_max : mg "max" = none
  z_int : mg "int" = none
  z_isinstance : mg "isinstance" = none
  c_LETTERS : ∃ t, mg "LETTERS" = some (.str "abcdefghijklmnopqrstuvwxyz" t)
  c_HOME : ∃ t, mg "HOME" = some (.str "home" t)
  c_MOST_LAID : ∃ t, mg "MOST_LAID" = some (.int 200 t)
  m_Layer : mg "Layer" = some (.ref cL)
  clsL : Cls K cL
  mkL : Mk K cL (ad 11)
  na_name : NoAttr K cL "name"
  na_words : NoAttr K cL "words"
  na_named : NoAttr K cL "named"
  na_posted : NoAttr K cL "posted"
  na_many : NoAttr K cL "many"
  m_TooGreat : mg "TooGreat" = some (.ref cT)
  m_NextError : mg "NextError" = some (.ref cN)
  oT : OexC K cT
  iT : PySem.W.findIn K (.ref cT) "__init__" = some (some (.ref (ad 1)))
  tT : PySem.W.typeIn K (.ref (ad 1)) = some (.type "function")
  nT : PySem.W.findIn K (.ref cT) "name" = some none
  eT : PySem.W.exmOne K (.ref cT) (.ref cT) = some true
  rN : PySem.W.readsIn K cN (.type "type") = true
  gN : PySem.W.specialIn K (.ref cN) "__getattribute__" = some (some (.builtin "type.__getattribute__"))
  vN : PySem.W.findCls K (.ref cN) (.type "type") "__init__" = some (.val (.builtin "ValueError.__init__"))
section
variable {K : PySem.W.Frag} {mg : Str → Option Value} {ad : Nat → Addr} {fd : Nat → FuncData} {cL cT cN cB : Addr}
theorem b_Bent_init (T : Tx K mg ad fd cL cT cN cB) : Binds K (fd 0) ["self", "place"] [] := T.F_Bent_init.binds fun _ _ _ _ _ _ us hl => match us, hl with | [_, _], _ => rfl
theorem b_TooGreat_init (T : Tx K mg ad fd cL cT cN cB) : Binds K (fd 1) ["self", "name"] [] := T.F_TooGreat_init.binds fun _ _ _ _ _ _ us hl => match us, hl with | [_, _], _ => rfl
theorem b_parts_of (T : Tx K mg ad fd cL cT cN cB) : Binds K (fd 2) ["term"] [] := T.F_parts_of.binds fun _ _ _ _ _ _ us hl => match us, hl with | [_], _ => rfl
theorem b_places_in (T : Tx K mg ad fd cL cT cN cB) : Binds K (fd 3) ["term", "place"] [] := T.F_places_in.binds fun _ _ _ _ _ _ us hl => match us, hl with | [_, _], _ => rfl
theorem b_inner_turned (T : Tx K mg ad fd cL cT cN cB) : Binds K (fd 4) ["part"] [] := T.F_inner_turned.binds fun _ _ _ _ _ _ us hl => match us, hl with | [_], _ => rfl
theorem b_inner_simple (T : Tx K mg ad fd cL cT cN cB) : Binds K (fd 5) ["part"] [] := T.F_inner_simple.binds fun _ _ _ _ _ _ us hl => match us, hl with | [_], _ => rfl
theorem b_hand_of (T : Tx K mg ad fd cL cT cN cB) : Binds K (fd 6) ["part"] [] := T.F_hand_of.binds fun _ _ _ _ _ _ us hl => match us, hl with | [_], _ => rfl
theorem b_word_of (T : Tx K mg ad fd cL cT cN cB) : Binds K (fd 7) ["k"] [] := T.F_word_of.binds fun _ _ _ _ _ _ us hl => match us, hl with | [_], _ => rfl
theorem b_term_by (T : Tx K mg ad fd cL cT cN cB) : Binds K (fd 8) ["term", "words"] [] := T.F_term_by.binds fun _ _ _ _ _ _ us hl => match us, hl with | [_, _], _ => rfl
theorem b_is_laid_part (T : Tx K mg ad fd cL cT cN cB) : Binds K (fd 9) ["part"] [] := T.F_is_laid_part.binds fun _ _ _ _ _ _ us hl => match us, hl with | [_], _ => rfl
theorem b_is_laid (T : Tx K mg ad fd cL cT cN cB) : Binds K (fd 10) ["turned_book"] [] := T.F_is_laid.binds fun _ _ _ _ _ _ us hl => match us, hl with | [_], _ => rfl
theorem b_Layer_init (T : Tx K mg ad fd cL cT cN cB) : Binds K (fd 11) ["self", "name", "names"] [] := T.F_Layer_init.binds fun _ _ _ _ _ _ us hl => match us, hl with | [_, _, _], _ => rfl
theorem b_Layer_new_word (T : Tx K mg ad fd cL cT cN cB) : Binds K (fd 12) ["self"] [] := T.F_Layer_new_word.binds fun _ _ _ _ _ _ us hl => match us, hl with | [_], _ => rfl
theorem b_Layer_new_hand (T : Tx K mg ad fd cL cT cN cB) : Binds K (fd 13) ["self"] [] := T.F_Layer_new_hand.binds fun _ _ _ _ _ _ us hl => match us, hl with | [_], _ => rfl
theorem b_Layer_count_part (T : Tx K mg ad fd cL cT cN cB) : Binds K (fd 14) ["self", "some"] [] := T.F_Layer_count_part.binds fun _ _ _ _ _ _ us hl => match us, hl with | [_, _], _ => rfl
theorem b_Layer_lay (T : Tx K mg ad fd cL cT cN cB) : Binds K (fd 15) ["self", "part", "words", "hands"] [] := T.F_Layer_lay.binds fun _ _ _ _ _ _ us hl => match us, hl with | [_, _, _, _], _ => rfl
theorem b_Layer_lay_give (T : Tx K mg ad fd cL cT cN cB) : Binds K (fd 16) ["self", "term", "hand"] [] := T.F_Layer_lay_give.binds fun _ _ _ _ _ _ us hl => match us, hl with | [_, _, _], _ => rfl
theorem b_Layer_lay_ask (T : Tx K mg ad fd cL cT cN cB) : Binds K (fd 17) ["self", "f", "some", "hand"] [] := T.F_Layer_lay_ask.binds fun _ _ _ _ _ _ us hl => match us, hl with | [_, _, _, _], _ => rfl
theorem b_Layer_lay_on (T : Tx K mg ad fd cL cT cN cB) : Binds K (fd 18) ["self", "hand", "word"] [] := T.F_Layer_lay_on.binds fun _ _ _ _ _ _ us hl => match us, hl with | [_, _, _], _ => rfl
theorem b_laid (T : Tx K mg ad fd cL cT cN cB) : Binds K (fd 19) ["turned_book"] [] := T.F_laid.binds fun _ _ _ _ _ _ us hl => match us, hl with | [_], _ => rfl
theorem b_bent_in (T : Tx K mg ad fd cL cT cN cB) : Binds K (fd 20) ["part", "place", "due"] [] := T.F_bent_in.binds fun _ _ _ _ _ _ us hl => match us, hl with | [_, _, _], _ => rfl
theorem b_bent_at (T : Tx K mg ad fd cL cT cN cB) : Binds K (fd 21) ["turned_book"] [] := T.F_bent_at.binds fun _ _ _ _ _ _ us hl => match us, hl with | [_], _ => rfl
theorem b_part_back (T : Tx K mg ad fd cL cT cN cB) : Binds K (fd 22) ["part"] [] := T.F_part_back.binds fun _ _ _ _ _ _ us hl => match us, hl with | [_], _ => rfl
theorem b_back (T : Tx K mg ad fd cL cT cN cB) : Binds K (fd 23) ["turned_book"] [] := T.F_back.binds fun _ _ _ _ _ _ us hl => match us, hl with | [_], _ => rfl
theorem b_Lcell_at (T : Tx K mg ad fd cL cT cN cB) : Binds K (fd 24) ["script", "k"] [] := T.F_Lcell_at.binds fun _ _ _ _ _ _ us hl => match us, hl with | [_, _], _ => rfl
theorem b_Ltape (T : Tx K mg ad fd cL cT cN cB) : Binds K (fd 25) ["script", "k"] [] := T.F_Ltape.binds fun _ _ _ _ _ _ us hl => match us, hl with | [_, _], _ => rfl
theorem b_Ldigit (T : Tx K mg ad fd cL cT cN cB) : Binds K (fd 26) ["tape", "many"] [] := T.F_Ldigit.binds fun _ _ _ _ _ _ us hl => match us, hl with | [_, _], _ => rfl
theorem b_Lwords (T : Tx K mg ad fd cL cT cN cB) : Binds K (fd 27) ["tape", "many"] [] := T.F_Lwords.binds fun _ _ _ _ _ _ us hl => match us, hl with | [_, _], _ => rfl
theorem b_Lnumber (T : Tx K mg ad fd cL cT cN cB) : Binds K (fd 28) ["tape"] [] := T.F_Lnumber.binds fun _ _ _ _ _ _ us hl => match us, hl with | [_], _ => rfl
theorem b_Lleaf (T : Tx K mg ad fd cL cT cN cB) : Binds K (fd 29) ["tape", "known", "around"] [] := T.F_Lleaf.binds fun _ _ _ _ _ _ us hl => match us, hl with | [_, _, _], _ => rfl
theorem b_Lshares (T : Tx K mg ad fd cL cT cN cB) : Binds K (fd 30) ["tape", "room", "many"] [] := T.F_Lshares.binds fun _ _ _ _ _ _ us hl => match us, hl with | [_, _, _], _ => rfl
theorem b_Lless_one (T : Tx K mg ad fd cL cT cN cB) : Binds K (fd 31) ["around"] [] := T.F_Lless_one.binds fun _ _ _ _ _ _ us hl => match us, hl with | [_], _ => rfl
theorem b_Lnumbers (T : Tx K mg ad fd cL cT cN cB) : Binds K (fd 32) ["tape", "many"] [] := T.F_Lnumbers.binds fun _ _ _ _ _ _ us hl => match us, hl with | [_, _], _ => rfl
theorem b_Lparts (T : Tx K mg ad fd cL cT cN cB) : Binds K (fd 33) ["term"] [] := T.F_Lparts.binds fun _ _ _ _ _ _ us hl => match us, hl with | [_], _ => rfl
theorem b_Lon (T : Tx K mg ad fd cL cT cN cB) : Binds K (fd 34) ["term", "names", "info", "rest"] [] := T.F_Lon.binds fun _ _ _ _ _ _ us hl => match us, hl with | [_, _, _, _], _ => rfl
theorem b_Lasked (T : Tx K mg ad fd cL cT cN cB) : Binds K (fd 35) ["now", "f", "numbers", "height"] [] := T.F_Lasked.binds fun _ _ _ _ _ _ us hl => match us, hl with | [_, _, _, _], _ => rfl
theorem b_Lapply (T : Tx K mg ad fd cL cT cN cB) : Binds K (fd 36) ["now", "term", "info", "numbers"] [] := T.F_Lapply.binds fun _ _ _ _ _ _ us hl => match us, hl with | [_, _, _, _], _ => rfl
theorem b_Lput_in (T : Tx K mg ad fd cL cT cN cB) : Binds K (fd 37) ["now", "number", "rest"] [] := T.F_Lput_in.binds fun _ _ _ _ _ _ us hl => match us, hl with | [_, _, _], _ => rfl
theorem b_Lrun (T : Tx K mg ad fd cL cT cN cB) : Binds K (fd 38) ["book", "f", "numbers", "most"] [] := T.F_Lrun.binds fun _ _ _ _ _ _ us hl => match us, hl with | [_, _, _, _], _ => rfl
theorem b_Lvalue (T : Tx K mg ad fd cL cT cN cB) : Binds K (fd 39) ["term", "names"] [] := T.F_Lvalue.binds fun _ _ _ _ _ _ us hl => match us, hl with | [_, _], _ => rfl
theorem b_Lturned_run (T : Tx K mg ad fd cL cT cN cB) : Binds K (fd 40) ["turned", "f", "numbers", "most"] [] := T.F_Lturned_run.binds fun _ _ _ _ _ _ us hl => match us, hl with | [_, _, _, _], _ => rfl
theorem b_Lalong (T : Tx K mg ad fd cL cT cN cB) : Binds K (fd 41) ["now", "part", "names", "hands"] [] := T.F_Lalong.binds fun _ _ _ _ _ _ us hl => match us, hl with | [_, _, _, _], _ => rfl
theorem b_Lsimple (T : Tx K mg ad fd cL cT cN cB) : Binds K (fd 42) ["tape", "around", "deep"] [] := T.F_Lsimple.binds fun _ _ _ _ _ _ us hl => match us, hl with | [_, _, _], _ => rfl
theorem b_Lsome_hand (T : Tx K mg ad fd cL cT cN cB) : Binds K (fd 43) ["tape", "known", "hands"] [] := T.F_Lsome_hand.binds fun _ _ _ _ _ _ us hl => match us, hl with | [_, _, _], _ => rfl
theorem b_Lend (T : Tx K mg ad fd cL cT cN cB) : Binds K (fd 44) ["tape", "known", "around", "hands"] [] := T.F_Lend.binds fun _ _ _ _ _ _ us hl => match us, hl with | [_, _, _, _], _ => rfl
theorem b_Lpart (T : Tx K mg ad fd cL cT cN cB) : Binds K (fd 45) ["tape", "known", "around", "hands", "room", "deep"] [] := T.F_Lpart.binds fun _ _ _ _ _ _ us hl => match us, hl with | [_, _, _, _, _, _], _ => rfl
theorem b_Lturned_body (T : Tx K mg ad fd cL cT cN cB) : Binds K (fd 46) ["tape", "known", "names"] [] := T.F_Lturned_body.binds fun _ _ _ _ _ _ us hl => match us, hl with | [_, _, _], _ => rfl
theorem b_Lmany_parts (T : Tx K mg ad fd cL cT cN cB) : Binds K (fd 47) ["part"] [] := T.F_Lmany_parts.binds fun _ _ _ _ _ _ us hl => match us, hl with | [_], _ => rfl
theorem b_Lturned_book (T : Tx K mg ad fd cL cT cN cB) : Binds K (fd 48) ["script", "start", "straight"] [] := T.F_Lturned_book.binds fun _ _ _ _ _ _ us hl => match us, hl with | [_, _, _], _ => rfl
theorem b_Lshape_term (T : Tx K mg ad fd cL cT cN cB) : Binds K (fd 49) ["term", "words"] [] := T.F_Lshape_term.binds fun _ _ _ _ _ _ us hl => match us, hl with | [_, _], _ => rfl
theorem b_Lshape_part (T : Tx K mg ad fd cL cT cN cB) : Binds K (fd 50) ["part", "words", "hands", "now"] [] := T.F_Lshape_part.binds fun _ _ _ _ _ _ us hl => match us, hl with | [_, _, _, _], _ => rfl
theorem b_Lshape (T : Tx K mg ad fd cL cT cN cB) : Binds K (fd 51) ["turned"] [] := T.F_Lshape.binds fun _ _ _ _ _ _ us hl => match us, hl with | [_], _ => rfl
theorem b_Lfirst_runs (T : Tx K mg ad fd cL cT cN cB) : Binds K (fd 52) ["script", "turned"] [] := T.F_Lfirst_runs.binds fun _ _ _ _ _ _ us hl => match us, hl with | [_, _], _ => rfl
theorem b_Ltold (T : Tx K mg ad fd cL cT cN cB) : Binds K (fd 53) ["some"] [] := T.F_Ltold.binds fun _ _ _ _ _ _ us hl => match us, hl with | [_], _ => rfl
theorem b_law (T : Tx K mg ad fd cL cT cN cB) : Binds K (fd 54) ["script"] [] := T.F_law.binds fun _ _ _ _ _ _ us hl => match us, hl with | [_], _ => rfl
end
end Wn
end
section
set_option Elab.async false
set_option linter.all false
set_option maxRecDepth 100000
set_option maxHeartbeats 4000000
/-! Readings: values, tests, statements in small lemmas. -/
namespace Wn
open PySem PySem.Spec PyProof.Rows L2
section
variable {X : Cx}
theorem op_mulR : OpR X (binaryOp .Mult) (rI (fun i j => IntMulOk i j) fun i j => .int (i * j)) := opI fun _ _ _ _ _ _ _ hc q => mul_int q hc
/-- s * n -/
def rMulS : R2 := fun x y H Q => ∃ z n, x = .str z ∧ y = .int n ∧ MulOk z n ∧ Q (.str (Txt.mul z n)) H
theorem op_mulS : OpR X (binaryOp .Mult) rMulS := by
  intro pins s σ H x y u v Q I rx ry h
  obtain ⟨z, n, rfl, rfl, ok, q⟩ := h
  obtain ⟨t, rfl⟩ := rx
  obtain ⟨t', rfl⟩ := ry
  exact SB.mul ok fun t2 k => ⟨.str _, H, I.tok _, ⟨_, rfl⟩, q⟩
/-- N.__init__(self, ..), N an own class over ValueError that has none itself -/
theorem pe_neinit {x : Str} {cN : Addr} {e : Expr} {es : List Expr} {ta : TA} {p1 p2 pos : Pos} {pl : Sem Bool} (hg : Gl X x) (hm : X.mg x = some (.ref cN)) (rd : PySem.W.readsIn X.K cN (.type "type") = true)
    (ga : PySem.W.specialIn X.K (.ref cN) "__getattribute__" = some (some (.builtin "type.__getattribute__"))) (vV : PySem.W.findCls X.K (.ref cN) (.type "type") "__init__" = some (.val (.builtin "ValueError.__init__"))) (ha : PA X (e :: es) ta)
    (hc : eval (.Call (.Attribute (.Name x p1) "__init__" p2) (e :: es) [] pos) X.env = (do
      let ov ← eval (.Name x p1) X.env
      standAt p2.atName
      let (f, first) ← holding [ov] (getMethod ov "__init__" pl)
      callWith pos f first (backTo pos (starEach (e :: es) X.env)) (backToKw pos (keywordEach [] X.env))) := by rfl) (hdb : (x == ("__debug__" : Str)) = false := by decide)
    (he : starEach (e :: es) X.env = (false, eval e X.env) :: starEach es X.env := by rfl) (hpl : (backTo pos (starEach es X.env)).any (·.1) = false := by rfl) :
    PE X (.Call (.Attribute (.Name x p1) "__init__" p2) (e :: es) [] pos) (tVeI X.K ta) := by
  refine ⟨fun pins s σ H Q I h => ?_⟩
  refine PySem.W.methodCall_KW (ld_glob I hg hm ?_ hdb) hc
  refine PySem.W.method_cls I.kIn ga (PySem.W.cls_value I.kIn rd vV (by decide +kernel) ?_)
  show wpAny _ _ (callWith pos (Value.builtin "ValueError.__init__") [] (backTo pos (starEach (e :: es) X.env)) []) _ _ _
  refine PyProof.Rows.callWith_method1 (thn (ha.run pos pins _ σ H _ (I.tok _) h) fun us s1 ⟨vs, H1, I1, r1, a, C, ws, ev, hl, T, ea, q⟩ => ?_) he hpl
  subst ev
  cases r1 with
  | @cons _ u0 _ ur ra rw' =>
    obtain rfl : u0 = Value.ref a := ra
    have hlen : ur.length ≤ sizeLine := by
      rw [← Paired.length rw', sizeLine_eq]
      omega
    exact oinit_ok T I1 ea hlen fun s' J => ⟨.non, H1, J, rfl, q⟩
end

/-! ### the rules by the written part's name (a comprehension's block has its own context) -/
section
variable {X : Cx} {K : PySem.W.Frag}
def rLenQ (K : PySem.W.Frag) : List V → Hp → VK → Prop := fun xs H Q => ∃ p ys, xs = [.ref p] ∧ (SqL K H p ys ∨ SqT K H p ys) ∧ Q (.int ys.length) H
theorem call_len_q (h : X.K = K) : CallR X (.builtin "len") (rLenQ K) := h ▸ call_len_seq
theorem ix_tupQ (h : X.K = K) : IxR X (rIxT K) := h ▸ ix_tup
theorem ix_listQ (h : X.K = K) : IxR X (rIxL K) := h ▸ ix_list
theorem call_isiQ (h : X.K = K) : CallR X (.builtin "isinstance") (rIsi K) := h ▸ call_isi
theorem pg_tupQ {es : List Expr} {k : Nat} {t : TGs} {n : Nat} {pos : Pos} (hK : X.K = K) (hc : X.calm = true) (h : PGs X es t)
    (hn : (assignEach es X.env).length = n := by rfl) (hst : (assignEach es X.env).findIdx? (·.1) = none := by rfl) : PG X (.Tuple es k pos) (gTup K n t) := by
  subst hK
  exact pg_tup hc h hn hst
end

/-! ### heaps -/
theorem same_tup {K : PySem.W.Frag} {H H' : Hp} {a : Addr} {xs : List V} (e : Same H H') (h : SqT K H a xs) : SqT K H' a xs := by
  rcases h with (h | ⟨o, h⟩) | h
  · exact .inl (.inl (e _ _ h))
  · exact .inl (.inr ⟨o, e _ _ h⟩)
  · exact .inr h
theorem same_rd {H H' : Hp} {a : Addr} {u : HO} (e : Same H H') (h : Rd H a u) : Rd H' a u := by
  rcases h with h | ⟨o, h⟩
  · exact .inl (e _ _ h)
  · exact .inr ⟨o, e _ _ h⟩
theorem same_new {H : Hp} {p : Addr} {o : HO} (h : H p = none) : Same H (upd H p o) := fun a u e => by
  rw [upd_ne (ne_of_none e h)]
  exact e
/-- all but S is as it was -/
def But (S : Addr → Prop) (H H' : Hp) : Prop := ∀ b o, ¬ S b → H b = some o → H' b = some o
/-- the heap without S -/
noncomputable def msk (S : Addr → Prop) (H : Hp) : Hp := fun b => open Classical in if S b then none else H b
theorem msk_get {S : Addr → Prop} {H : Hp} {b : Addr} {o : HO} (h : msk S H b = some o) : ¬ S b ∧ H b = some o := by
  unfold msk at h
  by_cases c : S b
  · rw [if_pos c] at h; cases h
  · rw [if_neg c] at h; exact ⟨c, h⟩
theorem msk_of {S : Addr → Prop} {H : Hp} {b : Addr} {o : HO} (c : ¬ S b) (h : H b = some o) : msk S H b = some o := by
  unfold msk
  rw [if_neg c]; exact h
theorem msk_same {S : Addr → Prop} {H : Hp} : Same (msk S H) H := fun _ _ h => (msk_get h).2
theorem But.msk {S : Addr → Prop} {H H' : Hp} (h : But S H H') : Same (msk S H) (msk S H') := fun b o e =>
  let ⟨c, q⟩ := msk_get e
  msk_of c (h b o c q)
theorem But.refl {S : Addr → Prop} {H : Hp} : But S H H := fun _ _ _ h => h
theorem But.trans {S : Addr → Prop} {H H1 H2 : Hp} (a : But S H H1) (b : But S H1 H2) : But S H H2 := fun c o n h => b c o n (a c o n h)
theorem But.of {S : Addr → Prop} {H H' : Hp} (h : Same H H') : But S H H' := fun b o _ e => h b o e
theorem But.mut {S : Addr → Prop} {H : Hp} {p : Addr} {o : HO} (h : S p) : But S H (upd H p o) := fun b u n e => by
  rw [upd_ne (fun z => n (by rw [z]; exact h))]; exact e
theorem But.sub {S S' : Addr → Prop} {H H' : Hp} (h : But S H H') (s : ∀ b, S b → S' b) : But S' H H' := fun b o n e => h b o (fun z => n (s b z)) e
theorem free_of {H H' : Hp} {p : Addr} (e : ∀ o, H p = some o → ∃ o', H' p = some o') (h : H' p = none) : H p = none := by
  cases q : H p with
  | none => rfl
  | some o =>
    obtain ⟨o', z⟩ := e o q
    rw [h] at z; cases z

/-! ### dicts by texts -/
def DK (H : Hp) (d : Addr) (n : Nat) (f : Str → Option V) : Prop := ∃ kvs, H d = some (.dK kvs) ∧ kvs.length ≤ n ∧ ∀ x, valV kvs (.inr x) = f x
theorem DK.mono {H H' : Hp} {d : Addr} {n : Nat} {f : Str → Option V} (e : Same H H') (h : DK H d n f) : DK H' d n f :=
  let ⟨kvs, a, b, c⟩ := h
  ⟨kvs, e _ _ a, b, c⟩
theorem DK.up {H : Hp} {d : Addr} {n m : Nat} {f : Str → Option V} (h : DK H d n f) (l : n ≤ m) : DK H d m f :=
  let ⟨kvs, a, b, c⟩ := h
  ⟨kvs, a, Nat.le_trans b l, c⟩
theorem DK.get {H : Hp} {d : Addr} {n : Nat} {f : Str → Option V} {x : Str} {o : Option V} (h : DK H d n f) (e : f x = o) : DGet H d (.str x) o := by
  obtain ⟨kvs, a, b, c⟩ := h
  have z := DGet.k (k := Sum.inr x) a
  rw [c, e] at z
  exact z
theorem DK.put {H : Hp} {d : Addr} {n : Nat} {f : Str → Option V} {x : Str} {v : V} (h : DK H d n f) (l : n < 100000) : ∃ kvs, DPut H d (.str x) v (upd H d (.dK kvs)) ∧ DK (upd H d (.dK kvs)) d (n + 1) (fset f x v) := by
  obtain ⟨kvs, a, b, c⟩ := h
  refine ⟨putK kvs (Sum.inr x) v, DPut.k (k := Sum.inr x) a (Nat.lt_of_le_of_lt b (Nat.lt_trans l (by decide))), _, upd_same, Nat.le_trans (length_putK _ _ _) (by omega), fun y => ?_⟩
  rw [valV_put]
  by_cases e : y = x
  · rw [if_pos (by rw [e]), e, fset_same]
  · rw [if_neg (fun z => e (Sum.inr.inj z)), fset_ne e, c]
theorem DK.new {H : Hp} {d : Addr} : DK (upd H d (.dK [])) d 0 (fun _ => none) := ⟨[], upd_same, Nat.le_refl _, fun _ => rfl⟩
theorem DK.upd_ne' {H : Hp} {d p : Addr} {o : HO} {n : Nat} {f : Str → Option V} (h : DK H d n f) (ne : d ≠ p) : DK (upd H p o) d n f :=
  let ⟨kvs, a, b, c⟩ := h
  ⟨kvs, by rw [upd_ne ne]; exact a, b, c⟩

/-! ### loops -/
theorem for_enumT {K : PySem.W.Frag} {a : Addr} {xs : List V} {g : TG} {tb : TS} {D : Ends} {σ : L2.St} {H : Hp} (Pv : Nat → L2.St → Hp → Prop) (h0 : Pv 0 σ H) (hl : ∀ i σ H, i ≤ xs.length → Pv i σ H → SqT K H a xs)
    (hs : ∀ i x σ H p, xs[i]? = some x → Pv i σ H → H p = none → g (.ref p) σ (upd H p (.tup [.int (i : Nat), x])) fun σ2 H2 => tb { D with nx := Pv (i + 1), ct := Pv (i + 1), bk := D.nx } σ2 H2) (hd : ∀ σ H, Pv xs.length σ H → D.nx σ H) :
    ∃ W : Nat → Nat → L2.St → Hp → Prop, (∃ m, W 0 m σ H) ∧ ∀ i m σ H, W i m σ H →
      ((Itet K a).stop i H ∧ D.nx σ H) ∨ ((Itet K a).go i H ∧ ∃ N : L2.St → Hp → Prop, (∀ σ' H', N σ' H' → ∃ m', m' < m ∧ W (i + 1) m' σ' H') ∧ ∀ x H', (Itet K a).yld i H x H' → g x σ H' fun σ2 H2 => tb { D with nx := N, ct := N, bk := D.nx } σ2 H2) := by
  refine ⟨fun i m σ H => m = xs.length - i ∧ i ≤ xs.length ∧ Pv i σ H, ⟨xs.length, by simp, Nat.zero_le _, h0⟩, ?_⟩
  rintro i m σ H ⟨rfl, hi, p⟩
  have q := hl i σ H hi p
  by_cases hlt : i < xs.length
  · refine .inr ⟨⟨xs, xs[i], q, by simp [hlt]⟩, Pv (i + 1), fun σ' H' p' => ⟨xs.length - (i + 1), by omega, rfl, hlt, p'⟩, fun x H' y => ?_⟩
    obtain ⟨T, x', e, hT, e2, y⟩ := y
    subst e e2
    exact hs i x' σ H T (y xs q) p hT
  · have e : i = xs.length := by omega
    subst e
    exact .inl ⟨⟨xs, q, Nat.le_refl _⟩, hd σ H p⟩

/-! ### values -/
def ValA (ta : TA) (σ : L2.St) (H : Hp) (vs : List V) : Prop := ∀ Q : List V → Hp → Prop, Q vs H → ta σ H Q
section
variable {K : PySem.W.Frag} {σ : L2.St} {G H : Hp} {te ta tb tr' td ty : TE} {t u c : TT} {tr : TA} {v x y z : V} {a p d : Addr} {xs ys vs : List V} {Q : VK} {i j : Int} {b b1 b2 : Bool}
theorem c_val (h : Val te σ H v) (q : Q v H) : te σ H Q := h Q q
theorem c_var {n : Nat} (h : σ[n]? = some (some v)) (q : Q v H) : tVar n σ H Q := ⟨v, h, q⟩
theorem va_nil : ValA tNil σ H [] := fun _ q => q
theorem va_cons (h : Val te σ H v) (hr : ValA tr σ H vs) : ValA (tCons te tr) σ H (v :: vs) := fun Q q => h _ (hr _ q)
theorem v_ixT (ha : Val ta σ H (.ref a)) (hb : Val tb σ H (.int i)) (hS : SqT K H a xs) (hx : atI xs i = some v) : Val (tOp (rIxT K) ta tb) σ H v := fun Q q => ha _ (hb _ ⟨a, xs, i, v, rfl, rfl, hS, hx, q⟩)
theorem v_ixL (ha : Val ta σ H (.ref a)) (hb : Val tb σ H (.int i)) (hS : SqL K H a xs) (hx : atI xs i = some v) : Val (tOp (rIxL K) ta tb) σ H v := fun Q q => ha _ (hb _ ⟨a, xs, i, v, rfl, rfl, hS, hx, q⟩)
theorem v_dget {n : Nat} {f : Str → Option V} {k : Str} (hd : Val td σ H (.ref d)) (hk : Val ty σ H (.str k)) (h : DK H d n f) (hx : f k = some v) : Val (tDGet td ty) σ H v := fun Q q => hd _ (hk _ ⟨d, v, rfl, h.get hx, q⟩)
theorem v_I0 {g : Int → Int → V} (ha : Val ta σ H (.int i)) (hb : Val tb σ H (.int j)) : Val (tOp (rI0 g) ta tb) σ H (g i j) := fun Q q => ha _ (hb _ ⟨i, j, rfl, rfl, q⟩)
theorem v_I {C : Int → Int → Prop} {g : Int → Int → V} (ha : Val ta σ H (.int i)) (hb : Val tb σ H (.int j)) (hc : C i j) : Val (tOp (rI C g) ta tb) σ H (g i j) := fun Q q => ha _ (hb _ ⟨i, j, rfl, rfl, hc, q⟩)
theorem v_eq (ha : Val ta σ H x) (hb : Val tb σ H y) (hs : scal x y = true) : Val (tOp rEq ta tb) σ H (.bl (decide (x = y))) := fun Q q => ha _ (hb _ ⟨hs, q⟩)
theorem v_ne (ha : Val ta σ H x) (hb : Val tb σ H y) (hs : scal x y = true) : Val (tOp rNe ta tb) σ H (.bl (!decide (x = y))) := fun Q q => ha _ (hb _ ⟨hs, q⟩)
theorem v_is (h : Val te σ H v) (e : v = x) : Val te σ H x := e ▸ h
theorem v_not (h : Val te σ H (.bl b)) : Val (tNotV te) σ H (.bl (!b)) := fun Q q => h _ ⟨b, rfl, q⟩
theorem v_ifT (h : Ans t σ H true) (h1 : Val ta σ H v) : Val (tIf t ta tb) σ H v := fun Q q => h _ (iteT (h1 Q q))
theorem v_ifF (h : Ans t σ H false) (h1 : Val tb σ H v) : Val (tIf t ta tb) σ H v := fun Q q => h _ (iteF (h1 Q q))
theorem v_str_add {s1 s2 : Str} (ha : Val ta σ H (.str s1)) (hb : Val tb σ H (.str s2)) (l : s1.length + s2.length ≤ 100000) :
    Val (tOp (fun x y H Q => ∃ i j, x = .str i ∧ y = .str j ∧ i.length + j.length ≤ sizeLine ∧ Q (.str (i ++ j)) H) ta tb) σ H (.str (s1 ++ s2)) := fun Q q => ha _ (hb _ ⟨s1, s2, rfl, rfl, Nat.le_trans l (by decide), q⟩)
theorem v_ixS {w : Str} {k : Nat} (ha : Val ta σ H (.str w)) (hb : Val tb σ H (.int i)) (l : w.length ≤ 100000) (hx : atI w.cps.toList i = some k) : Val (tOp rIxS ta tb) σ H (.str ⟨#[k]⟩) := fun Q q => ha _ (hb _ ⟨w, i, k, rfl, rfl, Nat.le_trans l (by decide), hx, q⟩)
theorem v_len (ha : Val te σ H (.ref a)) (h : SqL K H a xs ∨ SqT K H a xs) : Val (tCB (fun xs H Q => ∃ p ys, xs = [.ref p] ∧ (SqL K H p ys ∨ SqT K H p ys) ∧ Q (.int ys.length) H) (tCons te tNil)) σ H (.int xs.length) := fun Q q =>
  ha _ ⟨a, xs, rfl, h, q⟩
theorem v_int_bl (ha : Val te σ H (.bl b)) : Val (tCB (fun xs H Q => (∃ i, xs = [.int i] ∧ Q (.int i) H) ∨ ∃ k, xs = [.bl k] ∧ Q (.int (if k then 1 else 0)) H) (tCons te tNil)) σ H (.int (if b then 1 else 0)) := fun Q q =>
  ha _ (.inr ⟨b, rfl, q⟩)
theorem v_fld {C dx : Addr} {fs : List (Str × V)} {f : Str} (h : Val ta σ H (.ref a)) (ho : H a = some (.ins C dx fs)) (hc : Cls K C) (hn : NoAttr K C f) (hl : fs.lookup f = some v) : Val (tFld K ta f) σ H v := val_fld h ho hc hn hl
theorem v_isN (ha : Val ta σ H x) : Val (tOp rIsN ta (tC .non)) σ H (.bl (decide (x = .non))) := fun Q q => ha _ ⟨rfl, q⟩
/-! tests -/
theorem a_eq (ha : Val ta σ H x) (hb : Val tb σ H y) (hs : scal x y = true) (hd : decide (x = y) = b) : Ans (tTest (tOp rEq ta tb)) σ H b := ans_eq ha hb hs hd
theorem a_ne (ha : Val ta σ H x) (hb : Val tb σ H y) (hs : scal x y = true) (hd : (!decide (x = y)) = b) : Ans (tTest (tOp rNe ta tb)) σ H b := ans_ne ha hb hs hd
theorem a_val (h : Val te σ H (.bl b)) : Ans (tTest te) σ H b := fun Q q => h _ ⟨b, rfl, q⟩
theorem a_I0 {g : Int → Int → V} (ha : Val ta σ H (.int i)) (hb : Val tb σ H (.int j)) (hg : g i j = .bl b) : Ans (tTest (tOp (rI0 g) ta tb)) σ H b := fun Q q => ha _ (hb _ ⟨i, j, rfl, rfl, ⟨b, hg, q⟩⟩)
theorem a_or (h1 : Ans t σ H b1) (h2 : b1 = false → Ans u σ H b2) : Ans (tOr t u) σ H (b1 || b2) := by
  cases b1 with
  | true => exact ans_or1 h1
  | false => exact ans_or h1 (h2 rfl)
theorem a_and (h1 : Ans t σ H b1) (h2 : b1 = true → Ans u σ H b2) : Ans (tAnd t u) σ H (b1 && b2) := by
  cases b1 with
  | true => exact ans_and h1 (h2 rfl)
  | false => exact ans_and0 h1
theorem a_isN (ha : Val ta σ H x) (hd : decide (x = .non) = b) : Ans (tTest (tOp (fun x y H Q => y = .non ∧ Q (.bl (decide (x = .non))) H) ta (tC .non))) σ H b := ans_isN ha hd
theorem a_notN (ha : Val ta σ H x) (hd : (!decide (x = .non)) = b) : Ans (tTest (tOp (fun x y H Q => y = .non ∧ Q (.bl (!decide (x = .non))) H) ta (tC .non))) σ H b := ans_notN ha hd
/-! what may make objects -/
theorem c_tup (h : tr σ H fun xs H1 => xs.length ≤ 100000 ∧ ∀ p, H1 p = none → Q (.ref p) (upd H1 p (.tup xs))) (mono : ∀ (P R : List V → Hp → Prop), (∀ xs H, P xs H → R xs H) → tr σ H P → tr σ H R) : tTup tr σ H Q :=
  mono _ _ (fun xs H1 q => ⟨Nat.le_trans q.1 (by decide), q.2⟩) h
theorem c_tupV (h : ValA tr σ H xs) (l : xs.length ≤ 100000) (q : ∀ p, H p = none → Q (.ref p) (upd H p (.tup xs))) : tTup tr σ H Q := h _ ⟨Nat.le_trans l (by decide), q⟩
theorem c_lstV (h : ValA tr σ H xs) (l : xs.length ≤ 100000) (q : ∀ p, H p = none → Q (.ref p) (upd H p (.lst xs))) : tLst tr σ H Q := h _ ⟨Nat.le_trans l (by decide), q⟩
theorem c_call {sp : Sp} {dvs : List V} {E : XK} (h : ValA tr σ H vs) (q : sp (vs ++ dvs) H Q E) : tCall sp dvs E tr σ H Q := h _ q
theorem c_cb {r : List V → Hp → VK → Prop} (h : ValA tr σ H vs) (q : r vs H Q) : tCB r tr σ H Q := h _ q
theorem c_op {r : R2} (ha : Val ta σ H x) (hb : Val tb σ H y) (q : r x y H Q) : tOp r ta tb σ H Q := ha _ (hb _ q)
theorem cutV_whole {xs : List V} {lo hi : Option Int} (h : HT.sIx xs.length 0 lo = 0 ∧ HT.sIx xs.length xs.length hi = xs.length) : cutV xs lo hi = xs := by
  unfold cutV
  rw [h.1, h.2]
  simp
theorem r_slA {l h : Option Int} (hS : SqT K H a xs) (e : cutV xs l h = ys) (q : ∀ p H', Same H H' → SqT K H' p ys → Q (.ref p) H') : rSlA K (.ref a) l h H Q := by
  subst e
  refine ⟨a, xs, rfl, hS, fun w => ?_, fun _ p hp => q p _ (same_new hp) (SqT.of upd_same)⟩
  refine q a H (Same.refl H) ?_
  rw [cutV_whole w]; exact hS
theorem c_slA {lo hi : TO} {l h : Option Int} (ha : Val ta σ H (.ref a)) (hS : SqT K H a xs) (h1 : ∀ Q : Option Int → Hp → Prop, Q l H → lo σ H Q) (h2 : ∀ Q : Option Int → Hp → Prop, Q h H → hi σ H Q) (e : cutV xs l h = ys)
    (q : ∀ p H', Same H H' → SqT K H' p ys → Q (.ref p) H') : tSl (rSlA K) ta lo hi σ H Q := ha _ (h1 _ (h2 _ (r_slA hS e q)))
theorem r_catA {b : Addr} (ha : SqT K H a xs) (hb : SqT K H b ys) (l : xs.length + ys.length ≤ 100000) (q : ∀ p H', Same H H' → SqT K H' p (xs ++ ys) → Q (.ref p) H') : rCatA K (.ref a) (.ref b) H Q := by
  refine ⟨a, b, xs, ys, rfl, rfl, ha, hb, Nat.le_trans l (by decide), fun e => ?_, fun _ e => ?_, fun _ _ p hp => q p _ (same_new hp) (SqT.of upd_same)⟩
  · exact q b H (Same.refl H) (by rw [e]; exact hb)
  · exact q a H (Same.refl H) (by rw [e, List.append_nil]; exact ha)
theorem c_slL {lo hi : TO} {l h : Option Int} (ha : Val ta σ H (.ref a)) (hS : SqL K H a xs) (h1 : ∀ Q : Option Int → Hp → Prop, Q l H → lo σ H Q) (h2 : ∀ Q : Option Int → Hp → Prop, Q h H → hi σ H Q)
    (q : ∀ p, H p = none → Q (.ref p) (upd H p (.lst (cutV xs l h)))) : tSl (rSlL K) ta lo hi σ H Q := ha _ (h1 _ (h2 _ ⟨a, xs, rfl, hS, q⟩))
end
section
variable {σ : L2.St} {H : Hp} {te ta tb : TE} {tr : TA} {D : Ends} {Q : VK} {r : R2} {i : Nat}
theorem c_ret (h : te σ H D.rt) : tRet te D σ H := h
theorem c_opL (h : ta σ H fun x H1 => tb σ H1 fun y H2 => r x y H2 Q) : tOp r ta tb σ H Q := h
theorem c_set (h : te σ H fun x H1 => D.nx (σ.set i (some x)) H1) : tAsg te (gName i) D σ H := h
theorem c_drop (h : te σ H fun _ H1 => D.nx σ H1) : tDrop te D σ H := h
theorem sq_set {v : V} {t2 : TS} (h : Val te σ H v) (q : t2 D (σ.set i (some v)) H) : tSeq (tAsg te (gName i)) t2 D σ H := h _ q
theorem sq_setC {t2 : TS} (h : te σ H fun x H1 => t2 D (σ.set i (some x)) H1) : tSeq (tAsg te (gName i)) t2 D σ H := h
theorem sq_no {c : TT} {t1 t2 : TS} (h : Ans c σ H false) (q : t2 D σ H) : tSeq (tIfS c t1 tNext) t2 D σ H := h _ (iteF q)
theorem sq_yes {c : TT} {t1 t2 u : TS} (h : Ans c σ H true) (q : t1 { D with nx := t2 D } σ H) : tSeq (tIfS c t1 u) t2 D σ H := h _ (iteT q)
theorem sq_dropC {t2 : TS} (h : te σ H fun _ H1 => t2 D σ H1) : tSeq (tDrop te) t2 D σ H := h
theorem c_set' {e : Ends} (he : e = D) (h : te σ H fun x H1 => D.nx (σ.set i (some x)) H1) : tAsg te (gName i) D σ H := h
theorem c_cons {R : List V → Hp → Prop} (h : te σ H fun x H1 => tr σ H1 fun xs H2 => R (x :: xs) H2) : tCons te tr σ H R := h
theorem c_nil {R : List V → Hp → Prop} (h : R [] H) : tNil σ H R := h
theorem c_tup' (h : tr σ H fun xs H1 => xs.length ≤ sizeLine ∧ ∀ p, H1 p = none → Q (.ref p) (upd H1 p (.tup xs))) : tTup tr σ H Q := h
theorem c_bm {K : PySem.W.Frag} {l : Addr} {rr : V → List V → Hp → VK → Prop} {to : TE} (ho : Val to σ H (.ref l)) (hl : ∃ xs, SqL K H l xs) (h : tr σ H fun vs H1 => rr (.ref l) vs H1 Q) : tBM K "list" rr to tr σ H Q := ho _ ⟨Or.inl ⟨rfl, hl⟩, h⟩
theorem c_bm0 {K : PySem.W.Frag} {l : Addr} {rr : V → List V → Hp → VK → Prop} {to : TE} (ho : Val to σ H (.ref l)) (hl : ∃ xs, SqL K H l xs) (h : rr (.ref l) [] H Q) : tBM0 K "list" rr to σ H Q := ho _ ⟨Or.inl ⟨rfl, hl⟩, h⟩
theorem c_callL {sp : Sp} {dvs : List V} {E : XK} (h : tr σ H fun vs H1 => sp (vs ++ dvs) H1 Q E) : tCall sp dvs E tr σ H Q := h
theorem c_cbL {r : List V → Hp → VK → Prop} (h : tr σ H fun vs H1 => r vs H1 Q) : tCB r tr σ H Q := h
theorem sz_of {n : Nat} (h : n ≤ 100000) : n ≤ sizeLine := Nat.le_trans h (by decide)
theorem sz_lt {n : Nat} (h : n ≤ 100000) : n < sizeLine := Nat.lt_of_le_of_lt h (by decide)
end
theorem to_none {σ : L2.St} {H : Hp} : ∀ Q : Option Int → Hp → Prop, Q none H → tNoPart σ H Q := fun _ q => q
theorem to_some {σ : L2.St} {H : Hp} {te : TE} {i : Int} (h : Val te σ H (.int i)) : ∀ Q : Option Int → Hp → Prop, Q (some i) H → tPart te σ H Q := fun _ q => h _ ⟨i, rfl, q⟩
end Wn
end
section
set_option Elab.async false
set_option linter.all false
set_option maxRecDepth 100000
set_option maxHeartbeats 4000000
/-! Terms, turned parts, books as data. -/
namespace Wn
open PySem PySem.Spec PyProof.Rows L2
abbrev Tms := Tm Str
abbrev Pts := Pt Str
abbrev Bs := B Str
def kwO (l : Bool) : Str := if l then "less" else "plus"
def kwS (t : Bool) : Str := if t then "tell" else "let"
def encT : Tms → PyData
  | .num n => .tuple [.str "number", .int n]
  | .nm x => .tuple [.str "name", .str x]
  | .op l a b => .tuple [.str (kwO l), encT a, encT b]
def encP : Pts → PyData
  | .give j s => .tuple [.str "give", .str j, encT s]
  | .ask f ss j => .tuple [.str "ask", .str f, .tuple (ss.map encT), .str j]
  | .st tl x s T => .tuple [.str (kwS tl), .str x, encT s, encP T]
  | .ite s T U => .tuple [.str "if", encT s, encP T, encP U]
  | .post j x T U => .tuple [.str "post", .str j, .str x, encP T, encP U]
mutual
def encB : Bs → PyData
  | .num n => .tuple [.str "number", .int n]
  | .nm x => .tuple [.str "name", .str x]
  | .op l a b => .tuple [.str (kwO l), encB a, encB b]
  | .tell a => .tuple [.str "tell", encB a]
  | .lt x a b => .tuple [.str "let", .str x, encB a, encB b]
  | .ite a b c => .tuple [.str "if", encB a, encB b, encB c]
  | .ask f as => .tuple [.str "ask", .str f, .tuple (encBs as)]
def encBs : List Bs → List PyData
  | [] => []
  | a :: r => encB a :: encBs r
end
theorem encB_emb : ∀ s : Tms, encB (emb s) = encT s
  | .num _ => rfl
  | .nm _ => rfl
  | .op l a b => by
    show PyData.tuple [.str (kwO l), encB (emb a), encB (emb b)] = _
    rw [encB_emb a, encB_emb b]; rfl
theorem encBs_emb : ∀ ss : List Tms, encBs (ss.map emb) = ss.map encT
  | [] => rfl
  | s :: r => by
    show encB (emb s) :: encBs (r.map emb) = _
    rw [encB_emb, encBs_emb r]; rfl
/-- an errand's: (name, names, body) -/
def encE (f : Str) (xs : List Str) (d : PyData) : PyData := .tuple [.str f, .tuple (xs.map .str), d]
section
variable {K : PySem.W.Frag} {G H H' : Hp} {v : V} {a : Addr} {xs : List V} {d : PyData} {ds : List PyData}
theorem dp_str {x : Str} (h : Dp K H v (.str x)) : v = .str x := by cases h; rfl
theorem dp_int {i : Int} (h : Dp K H v (.int i)) : v = .int i := by cases h; rfl
theorem dp_tup (h : Dp K H v (.tuple ds)) : ∃ a xs, v = .ref a ∧ SqT K H a xs ∧ DpAll K H xs ds := by
  cases h with
  | tup h1 h2 => exact ⟨_, _, rfl, h1, h2⟩
theorem dpa_nil (h : DpAll K H xs []) : xs = [] := by cases h; rfl
theorem dpa_cons (h : DpAll K H xs (d :: ds)) : ∃ x r, xs = x :: r ∧ Dp K H x d ∧ DpAll K H r ds := by
  cases h with
  | cons h1 h2 => exact ⟨_, _, rfl, h1, h2⟩
theorem dpa_strs : ∀ {ws : List Str} {xs : List V}, DpAll K H xs (ws.map .str) → xs = ws.map .str
  | [], _, h => dpa_nil h
  | w :: ws, _, h => by
    obtain ⟨x, r, rfl, h1, h2⟩ := dpa_cons h
    rw [dp_str h1, dpa_strs h2]; rfl
theorem dpa_of_strs : ∀ {ws : List Str}, DpAll K H (ws.map .str) (ws.map .str)
  | [] => .nil
  | _ :: _ => .cons (.str _) dpa_of_strs
theorem dpa_of_ints : ∀ {ws : List Int}, DpAll K H (ws.map .int) (ws.map .int)
  | [] => .nil
  | _ :: _ => .cons (.int _) dpa_of_ints
theorem dpa_length : ∀ {xs : List V} {ds : List PyData}, DpAll K H xs ds → xs.length = ds.length
  | _, _, .nil => rfl
  | _, _, .cons _ h => congrArg (· + 1) (dpa_length h)
theorem dpa_get : ∀ {xs : List V} {ds : List PyData} {i : Nat} {d : PyData}, DpAll K H xs ds → ds[i]? = some d → ∃ x, xs[i]? = some x ∧ Dp K H x d
  | _, _, i, d, .nil, e => by simp at e
  | _, _, 0, d, .cons h _, e => by
    have e' := Option.some.inj e
    subst e'
    exact ⟨_, rfl, h⟩
  | _, _, i + 1, d, .cons _ h, e => dpa_get (i := i) h e
theorem dpa_snoc {x : V} : ∀ {xs : List V} {ds : List PyData}, DpAll K H xs ds → Dp K H x d → DpAll K H (xs ++ [x]) (ds ++ [d])
  | _, _, .nil, h => .cons h .nil
  | _, _, .cons q t, h => .cons q (dpa_snoc t h)
mutual
theorem dp_mono (e : Same H H') : ∀ {d : PyData} {v : V}, Dp K H v d → Dp K H' v d
  | .none, _, h => by cases h; exact .non
  | .bool _, _, h => by cases h; exact .bl _
  | .int _, _, h => by cases h; exact .int _
  | .str _, _, h => by cases h; exact .str _
  | .list _, _, h => by
    cases h with
    | lst h1 h2 => exact .lst (e.seq h1) (dpa_mono e h2)
  | .tuple _, _, h => by
    cases h with
    | tup h1 h2 => exact .tup (same_tup e h1) (dpa_mono e h2)
  | .dict _, _, h => by cases h
theorem dpa_mono (e : Same H H') : ∀ {ds : List PyData} {xs : List V}, DpAll K H xs ds → DpAll K H' xs ds
  | [], _, h => by cases h; exact .nil
  | _ :: _, _, h => by
    cases h with
    | cons h1 h2 => exact .cons (dp_mono e h1) (dpa_mono e h2)
end
/-- what S holds may be written -/
def MutS (S : Addr → Prop) (H : Hp) : Prop := ∀ b, S b → Mut (H b)
theorem msk_rd {S : Addr → Prop} (m : MutS S H) {u : HO} (nm : ¬ Mut (some u)) (h : Rd H a u) : Rd (msk S H) a u := by
  have key : ∀ {o : HO}, H a = some o → ¬ Mut (some o) → msk S H a = some o := fun {o} e n => msk_of (fun z => by
    have q := m a z
    rw [e] at q; exact n q) e
  rcases h with h | ⟨o, h⟩
  · exact .inl (key h nm)
  · exact .inr ⟨o, key h (fun z => z)⟩
theorem msk_tup {S : Addr → Prop} (m : MutS S H) (h : SqT K H a xs) : SqT K (msk S H) a xs := by
  rcases h with h | h
  · exact .inl (msk_rd m (fun z => z) h)
  · exact .inr h
theorem but_tup {S : Addr → Prop} (e : But S H H') (m : MutS S H) (h : SqT K H a xs) : SqT K H' a xs := same_tup msk_same (same_tup e.msk (msk_tup m h))
/-! no list within -/
mutual
def noL : PyData → Prop
  | .list _ => False
  | .tuple ds => noLs ds
  | _ => True
def noLs : List PyData → Prop
  | [] => True
  | d :: ds => noL d ∧ noLs ds
end
mutual
theorem msk_dp {S : Addr → Prop} (m : MutS S H) : ∀ {d : PyData} {v : V}, noL d → Dp K H v d → Dp K (msk S H) v d
  | .none, _, _, h => by cases h; exact .non
  | .bool _, _, _, h => by cases h; exact .bl _
  | .int _, _, _, h => by cases h; exact .int _
  | .str _, _, _, h => by cases h; exact .str _
  | .list _, _, n, h => by simp only [noL] at n
  | .tuple ds, _, n, h => by
    simp only [noL] at n
    cases h with
    | tup h1 h2 => exact .tup (msk_tup m h1) (msk_dpa m n h2)
  | .dict _, _, _, h => by cases h
theorem msk_dpa {S : Addr → Prop} (m : MutS S H) : ∀ {ds : List PyData} {xs : List V}, noLs ds → DpAll K H xs ds → DpAll K (msk S H) xs ds
  | [], _, _, h => by cases h; exact .nil
  | d :: ds, _, n, h => by
    simp only [noLs] at n
    cases h with
    | cons h1 h2 => exact .cons (msk_dp m n.1 h1) (msk_dpa m n.2 h2)
end
theorem but_dp {S : Addr → Prop} (e : But S H H') (m : MutS S H) (n : noL d) (h : Dp K H v d) : Dp K H' v d := dp_mono msk_same (dp_mono e.msk (msk_dp m n h))
theorem but_dpa {S : Addr → Prop} (e : But S H H') (m : MutS S H) (n : noLs ds) (h : DpAll K H xs ds) : DpAll K H' xs ds := dpa_mono msk_same (dpa_mono e.msk (msk_dpa m n h))
theorem noL_T : ∀ s : Tms, noL (encT s)
  | .num _ => by simp [encT, noL, noLs]
  | .nm _ => by simp [encT, noL, noLs]
  | .op _ a b => by simp [encT, noL, noLs, noL_T a, noL_T b]
theorem noL_Ts : ∀ ss : List Tms, noLs (ss.map encT)
  | [] => trivial
  | s :: r => ⟨noL_T s, noL_Ts r⟩
theorem noL_P : ∀ p : Pts, noL (encP p)
  | .give _ s => by simp [encP, noL, noLs, noL_T s]
  | .ask _ ss _ => by simp [encP, noL, noLs, noL_Ts ss]
  | .st _ _ s T => by simp [encP, noL, noLs, noL_T s, noL_P T]
  | .ite s T U => by simp [encP, noL, noLs, noL_T s, noL_P T, noL_P U]
  | .post _ _ T U => by simp [encP, noL, noLs, noL_P T, noL_P U]
mutual
theorem noL_B : ∀ b : Bs, noL (encB b)
  | .num _ => by simp [encB, noL, noLs]
  | .nm _ => by simp [encB, noL, noLs]
  | .op _ a b => by simp [encB, noL, noLs, noL_B a, noL_B b]
  | .tell a => by simp [encB, noL, noLs, noL_B a]
  | .lt _ a b => by simp [encB, noL, noLs, noL_B a, noL_B b]
  | .ite a b c => by simp [encB, noL, noLs, noL_B a, noL_B b, noL_B c]
  | .ask _ as => by simp [encB, noL, noLs, noL_Bs as]
theorem noL_Bs : ∀ as : List Bs, noLs (encBs as)
  | [] => by simp [encBs, noLs]
  | a :: r => by simp [encBs, noLs, noL_B a, noL_Bs r]
end
theorem noLs_strs : ∀ ws : List Str, noLs (ws.map .str)
  | [] => trivial
  | _ :: r => ⟨by simp [noL], noLs_strs r⟩
/-- a change at a new object alone -/
theorem but_same {f : Addr} (e : But (fun b => b = f) H H') (g : Same G H) (n : G f = none) : Same G H' := fun b o q => e b o (fun z => by rw [z, n] at q; cases q) (g b o q)
theorem mutS1 {f : Addr} (m : Mut (H f)) : MutS (fun b => b = f) H := fun b z => by rw [z]; exact m
theorem tm_num {n : Int} (h : Dp K H v (encT (.num n))) : ∃ a, v = .ref a ∧ SqT K H a [.str "number", .int n] := by
  obtain ⟨a, xs, rfl, h1, h2⟩ := dp_tup h
  obtain ⟨x, r, rfl, q1, h2⟩ := dpa_cons h2
  obtain ⟨y, r, rfl, q2, h2⟩ := dpa_cons h2
  cases dpa_nil h2; cases dp_str q1; cases dp_int q2
  exact ⟨a, rfl, h1⟩
theorem tm_nm {x : Str} (h : Dp K H v (encT (.nm x))) : ∃ a, v = .ref a ∧ SqT K H a [.str "name", .str x] := by
  obtain ⟨a, xs, rfl, h1, h2⟩ := dp_tup h
  obtain ⟨x, r, rfl, q1, h2⟩ := dpa_cons h2
  obtain ⟨y, r, rfl, q2, h2⟩ := dpa_cons h2
  cases dpa_nil h2; cases dp_str q1; cases dp_str q2
  exact ⟨a, rfl, h1⟩
theorem tm_op {l : Bool} {s t : Tms} (h : Dp K H v (encT (.op l s t))) : ∃ a x y, v = .ref a ∧ SqT K H a [.str (kwO l), x, y] ∧ Dp K H x (encT s) ∧ Dp K H y (encT t) := by
  obtain ⟨a, xs, rfl, h1, h2⟩ := dp_tup h
  obtain ⟨x, r, rfl, q1, h2⟩ := dpa_cons h2
  obtain ⟨y, r, rfl, q2, h2⟩ := dpa_cons h2
  obtain ⟨z, r, rfl, q3, h2⟩ := dpa_cons h2
  cases dpa_nil h2; cases dp_str q1
  exact ⟨a, y, z, rfl, h1, q2, q3⟩
theorem mk_num {n : Int} (h : H a = some (.tup [.str "number", .int n])) : Dp K H (.ref a) (encT (.num n)) := .tup (SqT.of h) (.cons (.str _) (.cons (.int _) .nil))
theorem mk_nm {x : Str} (h : H a = some (.tup [.str "name", .str x])) : Dp K H (.ref a) (encT (.nm x)) := .tup (SqT.of h) (.cons (.str _) (.cons (.str _) .nil))
theorem mk_op {l : Bool} {s t : Tms} {x y : V} (h : H a = some (.tup [.str (kwO l), x, y])) (hx : Dp K H x (encT s)) (hy : Dp K H y (encT t)) : Dp K H (.ref a) (encT (.op l s t)) := .tup (SqT.of h) (.cons (.str _) (.cons hx (.cons hy .nil)))
theorem pp_give {j : Str} {s : Tms} (h : Dp K H v (encP (.give j s))) : ∃ a x, v = .ref a ∧ SqT K H a [.str "give", .str j, x] ∧ Dp K H x (encT s) := by
  obtain ⟨a, xs, rfl, h1, h2⟩ := dp_tup h
  obtain ⟨x, r, rfl, q1, h2⟩ := dpa_cons h2
  obtain ⟨y, r, rfl, q2, h2⟩ := dpa_cons h2
  obtain ⟨z, r, rfl, q3, h2⟩ := dpa_cons h2
  cases dpa_nil h2; cases dp_str q1; cases dp_str q2
  exact ⟨a, z, rfl, h1, q3⟩
theorem pp_ask {f j : Str} {ss : List Tms} (h : Dp K H v (encP (.ask f ss j))) : ∃ a t xs, v = .ref a ∧ SqT K H a [.str "ask", .str f, .ref t, .str j] ∧ SqT K H t xs ∧ DpAll K H xs (ss.map encT) := by
  obtain ⟨a, xs, rfl, h1, h2⟩ := dp_tup h
  obtain ⟨x, r, rfl, q1, h2⟩ := dpa_cons h2
  obtain ⟨y, r, rfl, q2, h2⟩ := dpa_cons h2
  obtain ⟨z, r, rfl, q3, h2⟩ := dpa_cons h2
  obtain ⟨u, r, rfl, q4, h2⟩ := dpa_cons h2
  cases dpa_nil h2; cases dp_str q1; cases dp_str q2; cases dp_str q4
  obtain ⟨t, ys, rfl, h3, h4⟩ := dp_tup q3
  exact ⟨a, t, ys, rfl, h1, h3, h4⟩
theorem pp_st {tl : Bool} {x : Str} {s : Tms} {T : Pts} (h : Dp K H v (encP (.st tl x s T))) : ∃ a y z, v = .ref a ∧ SqT K H a [.str (kwS tl), .str x, y, z] ∧ Dp K H y (encT s) ∧ Dp K H z (encP T) := by
  obtain ⟨a, xs, rfl, h1, h2⟩ := dp_tup h
  obtain ⟨x, r, rfl, q1, h2⟩ := dpa_cons h2
  obtain ⟨y, r, rfl, q2, h2⟩ := dpa_cons h2
  obtain ⟨z, r, rfl, q3, h2⟩ := dpa_cons h2
  obtain ⟨u, r, rfl, q4, h2⟩ := dpa_cons h2
  cases dpa_nil h2; cases dp_str q1; cases dp_str q2
  exact ⟨a, z, u, rfl, h1, q3, q4⟩
theorem pp_ite {s : Tms} {T U : Pts} (h : Dp K H v (encP (.ite s T U))) : ∃ a x y z, v = .ref a ∧ SqT K H a [.str "if", x, y, z] ∧ Dp K H x (encT s) ∧ Dp K H y (encP T) ∧ Dp K H z (encP U) := by
  obtain ⟨a, xs, rfl, h1, h2⟩ := dp_tup h
  obtain ⟨x, r, rfl, q1, h2⟩ := dpa_cons h2
  obtain ⟨y, r, rfl, q2, h2⟩ := dpa_cons h2
  obtain ⟨z, r, rfl, q3, h2⟩ := dpa_cons h2
  obtain ⟨u, r, rfl, q4, h2⟩ := dpa_cons h2
  cases dpa_nil h2; cases dp_str q1
  exact ⟨a, y, z, u, rfl, h1, q2, q3, q4⟩
theorem pp_post {j x : Str} {T U : Pts} (h : Dp K H v (encP (.post j x T U))) : ∃ a y z, v = .ref a ∧ SqT K H a [.str "post", .str j, .str x, y, z] ∧ Dp K H y (encP T) ∧ Dp K H z (encP U) := by
  obtain ⟨a, xs, rfl, h1, h2⟩ := dp_tup h
  obtain ⟨x, r, rfl, q1, h2⟩ := dpa_cons h2
  obtain ⟨y, r, rfl, q2, h2⟩ := dpa_cons h2
  obtain ⟨z, r, rfl, q3, h2⟩ := dpa_cons h2
  obtain ⟨u, r, rfl, q4, h2⟩ := dpa_cons h2
  obtain ⟨w, r, rfl, q5, h2⟩ := dpa_cons h2
  cases dpa_nil h2; cases dp_str q1; cases dp_str q2; cases dp_str q3
  exact ⟨a, u, w, rfl, h1, q4, q5⟩
end
section
variable {K : PySem.W.Frag} {a : Addr} {xs : List V} {g : TG} {te : TE} {vs : List Nat} {σ : L2.St} {H1 : Hp} {D : Addr} {Qd : Hp → Prop}
theorem take_snoc {α : Type} {l : List α} {i : Nat} {d : α} (h : l[i]? = some d) : l.take (i + 1) = l.take i ++ [d] := by rw [List.take_add_one, h]; rfl
theorem noLs_take : ∀ {ds : List PyData} (i : Nat), noLs ds → noLs (ds.take i)
  | [], i, _ => by simp [noLs]
  | d :: ds, 0, _ => trivial
  | d :: ds, i + 1, h => ⟨h.1, noLs_take i h.2⟩
theorem noLs_get : ∀ {ds : List PyData} {i : Nat} {d : PyData}, noLs ds → ds[i]? = some d → noL d
  | [], _, _, _, e => by simp at e
  | d :: ds, 0, _, h, e => by
    have e' := Option.some.inj e
    subst e'
    exact h.1
  | d :: ds, i + 1, _, h, e => noLs_get (i := i) h.2 e
/-- what a comprehension's turn does: a new item onto the list at D, all else but new things as it was -/
theorem lc_step {ds : List PyData} {i : Nat} {d : PyData} {H H3 : Hp} {acc : List V} {y : V} (n1 : H1 D = none) (nl : noLs ds) (hd : ds[i]? = some d) (s1 : Same H1 H) (hD : H D = some (.lst acc)) (ha : DpAll K H acc (ds.take i)) (s3 : Same H H3) (dy : Dp K H3 y d) :
    Same H1 (upd H3 D (.lst (acc ++ [y]))) ∧ DpAll K (upd H3 D (.lst (acc ++ [y]))) (acc ++ [y]) (ds.take (i + 1)) := by
  have h3 : H3 D = some (.lst acc) := s3 _ _ hD
  have mD : Mut (H3 D) := by rw [h3]; trivial
  have bt : But (fun b => b = D) H3 (upd H3 D (.lst (acc ++ [y]))) := But.mut rfl
  refine ⟨but_same bt (s1.trans s3) n1, ?_⟩
  rw [take_snoc hd]
  exact dpa_snoc (but_dpa bt (mutS1 mD) (noLs_take i nl) (dpa_mono s3 ha)) (but_dp bt (mutS1 mD) (noLs_get nl hd) dy)
theorem lc_mapT (n1 : H1 D = none) (hS : SqT K H1 a xs) (ds : List PyData) (hl : ds.length = xs.length) (nl : noLs ds) (sm : xs.length ≤ 1000)
    (hs : ∀ (i : Nat) (x : V) (d : PyData) (H : Hp) (R : V → Hp → Prop), xs[i]? = some x → ds[i]? = some d → Same H1 H → (∀ y H3, Same H H3 → Dp K H3 y d → R y H3) → g x (wipe σ vs) H fun σ2 H2 => wipe σ2 vs = wipe σ vs ∧ te σ2 H2 R)
    (hd : ∀ H acc, Same H1 H → H D = some (.lst acc) → DpAll K H acc ds → Qd H) (mono : ∀ x σ H (P R : L2.St → Hp → Prop), (∀ σ H, P σ H → R σ H) → g x σ H P → g x σ H R) :
    ∃ W : Nat → Nat → Hp → Prop, (∃ m, W 0 m (upd H1 D (.lst []))) ∧ ∀ i m H, W i m H →
      ((Itt K a).stop i H ∧ Qd H) ∨ ((Itt K a).go i H ∧ ∃ Nx : Hp → Prop, (∀ H', Nx H' → ∃ m', m' < m ∧ W (i + 1) m' H') ∧ ∀ x H', (Itt K a).yld i H x H' → g x (wipe σ vs) H' fun σ2 H2 => wipe σ2 vs = wipe σ vs ∧ tYes σ2 H2 fun b H3 =>
        if b = true then te σ2 H3 fun y H4 => ∃ acc, H4 D = some (.lst acc) ∧ acc.length < sizeLine ∧ Nx (upd H4 D (.lst (acc ++ [y]))) else Nx H3) := by
  have up : ∀ {H : Hp}, Same H1 H → SqT K H a xs := fun e => same_tup e hS
  refine lc_tup (xs := xs) (fun i H => ∃ acc, Same H1 H ∧ H D = some (.lst acc) ∧ DpAll K H acc (ds.take i)) ⟨[], same_new n1, upd_same, .nil⟩ (fun i H _ ⟨_, e, _⟩ => up e) (fun i x H hx ⟨acc, e, hD, ha⟩ => ?_) fun H ⟨acc, e, hD, ha⟩ => hd H acc e hD (by rw [← hl, List.take_length] at ha; exact ha)
  have hi := (List.getElem?_eq_some_iff.mp hx).1
  have hi' : i < ds.length := by omega
  have hdi : ds[i]? = some ds[i] := List.getElem?_eq_getElem hi'
  have key := hs i x _ H (fun y H4 => ∃ acc, H4 D = some (HO.lst acc) ∧ acc.length < sizeLine ∧ ∃ acc', Same H1 (upd H4 D (.lst (acc ++ [y]))) ∧ upd H4 D (.lst (acc ++ [y])) D = some (HO.lst acc') ∧ DpAll K (upd H4 D (.lst (acc ++ [y]))) acc' (ds.take (i + 1))) hx hdi e (fun y H3 s3 dy => by
    obtain ⟨z1, z2⟩ := lc_step n1 nl hdi e hD ha s3 dy
    have ln := dpa_length ha
    rw [List.length_take] at ln
    exact ⟨acc, s3 _ _ hD, sz_lt (by omega), acc ++ [y], z1, upd_same, z2⟩)
  refine mono _ _ _ _ _ ?_ key
  intro σ2 H2 q
  refine ⟨q.1, ?_⟩
  dsimp only [tYes]
  rw [if_pos rfl]
  exact q.2
theorem lc_mapL (n1 : H1 D = none) (hS : SqL K H1 a xs) (ds : List PyData) (hl : ds.length = xs.length) (nl : noLs ds) (sm : xs.length ≤ 1000)
    (hs : ∀ (i : Nat) (x : V) (d : PyData) (H : Hp) (R : V → Hp → Prop), xs[i]? = some x → ds[i]? = some d → Same H1 H → (∀ y H3, Same H H3 → Dp K H3 y d → R y H3) → g x (wipe σ vs) H fun σ2 H2 => wipe σ2 vs = wipe σ vs ∧ te σ2 H2 R)
    (hd : ∀ H acc, Same H1 H → H D = some (.lst acc) → DpAll K H acc ds → Qd H) (mono : ∀ x σ H (P R : L2.St → Hp → Prop), (∀ σ H, P σ H → R σ H) → g x σ H P → g x σ H R) :
    ∃ W : Nat → Nat → Hp → Prop, (∃ m, W 0 m (upd H1 D (.lst []))) ∧ ∀ i m H, W i m H →
      ((Itl K a).stop i H ∧ Qd H) ∨ ((Itl K a).go i H ∧ ∃ Nx : Hp → Prop, (∀ H', Nx H' → ∃ m', m' < m ∧ W (i + 1) m' H') ∧ ∀ x H', (Itl K a).yld i H x H' → g x (wipe σ vs) H' fun σ2 H2 => wipe σ2 vs = wipe σ vs ∧ tYes σ2 H2 fun b H3 =>
        if b = true then te σ2 H3 fun y H4 => ∃ acc, H4 D = some (.lst acc) ∧ acc.length < sizeLine ∧ Nx (upd H4 D (.lst (acc ++ [y]))) else Nx H3) := by
  have up : ∀ {H : Hp}, Same H1 H → SqL K H a xs := fun e => e.seq hS
  refine lc_list (xs := xs) (fun i H => ∃ acc, Same H1 H ∧ H D = some (.lst acc) ∧ DpAll K H acc (ds.take i)) ⟨[], same_new n1, upd_same, .nil⟩ (fun i H _ ⟨_, e, _⟩ => up e) (fun i x H hx ⟨acc, e, hD, ha⟩ => ?_) fun H ⟨acc, e, hD, ha⟩ => hd H acc e hD (by rw [← hl, List.take_length] at ha; exact ha)
  have hi := (List.getElem?_eq_some_iff.mp hx).1
  have hi' : i < ds.length := by omega
  have hdi : ds[i]? = some ds[i] := List.getElem?_eq_getElem hi'
  have key := hs i x _ H (fun y H4 => ∃ acc, H4 D = some (HO.lst acc) ∧ acc.length < sizeLine ∧ ∃ acc', Same H1 (upd H4 D (.lst (acc ++ [y]))) ∧ upd H4 D (.lst (acc ++ [y])) D = some (HO.lst acc') ∧ DpAll K (upd H4 D (.lst (acc ++ [y]))) acc' (ds.take (i + 1))) hx hdi e (fun y H3 s3 dy => by
    obtain ⟨z1, z2⟩ := lc_step n1 nl hdi e hD ha s3 dy
    have ln := dpa_length ha
    rw [List.length_take] at ln
    exact ⟨acc, s3 _ _ hD, sz_lt (by omega), acc ++ [y], z1, upd_same, z2⟩)
  refine mono _ _ _ _ _ ?_ key
  intro σ2 H2 q
  refine ⟨q.1, ?_⟩
  dsimp only [tYes]
  rw [if_pos rfl]
  exact q.2
end
end Wn
end
section
set_option Elab.async false
set_option linter.all false
set_option maxRecDepth 100000
set_option maxHeartbeats 4000000
namespace Wn
open PySem PySem.Spec PyProof.Rows L2
/-- v is a value: the number of a simple term -/
def spValue (K : PySem.W.Frag) (d : Nat) : Sp := fun vs H Q _ => ∃ v dd n f s r i, vs = [v, .ref dd] ∧ Dp K H v (encT s) ∧ DK H dd n f ∧ (∀ x, f x = (r x).map V.int) ∧ tev r s = some i ∧ tdep s ≤ d ∧ ∀ H', Same H H' → Q (.int i) H'
theorem none_left {P : Program} {w : World} {K : PySem.W.Frag} {mg : Str → Option Value} {base : Heap} {CX : CXT} {k : Nat} {f : Addr} {fd : FuncData} {ps : List Str} {sp : Sp} (no : ∀ vs H Q E, ¬ sp vs H Q E) : FnOk P w K mg base CX k f fd ps sp :=
  ⟨fun vs H Q E h => absurd h (no vs H Q E), fun A outer s H args us vs Q E _ _ _ _ h => absurd h (no vs H Q E)⟩
section
variable {P : Program} {w : World} {K : PySem.W.Frag} {mg : Str → Option Value} {base : Heap} {ad : Nat → Addr} {fd : Nat → FuncData} {cL cT cN cB : Addr}
theorem ok_Lvalue (T : Tx K mg ad fd cL cT cN cB) : ∀ d, FnOk P w K mg base CX0 d (ad 39) (fd 39) ["term", "names"] (spValue K d)
  | 0 => none_left fun vs H Q E h => by
    obtain ⟨v, dd, n, f, s, r, i, _, _, _, _, _, h, _⟩ := h
    cases s <;> simp only [tdep] at h <;> omega
  | d + 1 => by
    have G_Lvalue := ok_Lvalue T d
    refine T.F_Lvalue.ok sc_Lvalue (fun vs H Q E h => ?_) (fun cdv A outer s H vs Q E hr h => ?_)
    · obtain ⟨v, dd, n, f, s, r, i, rfl, _⟩ := h
      rfl
    obtain ⟨v, dd, n, f, s, r, i, rfl, hv, hd, hf, he, hl, q⟩ := h
    refine ⟨_, (pss_cons (ps_if (pt_cmpR op_eq (pe_ix ix_tup (pv 0) pe_int (fun _ _ => rfl)) pe_str (nomark _)) (pss_one (ps_ret (pe_ix ix_tup (pv 0) pe_int (fun _ _ => rfl)))) pss_nil)
    (pss_cons (ps_if (pt_cmpR op_eq (pe_ix ix_tup (pv 0) pe_int (fun _ _ => rfl)) pe_str (nomark _)) (pss_one (ps_ret (pe_dget (hu_of hr) (pv 1) (pe_ix ix_tup (pv 0) pe_int (fun _ _ => rfl)) (fun _ _ => rfl)))) pss_nil)
    (pss_cons (ps_set (i := 2) sc_Lvalue.nd rfl (Or.inl rfl) (pe_call G_Lvalue (hr.mono (by first | decide | omega)) (by rfl) T.m_Lvalue T.F_Lvalue.kp (b_Lvalue T) .nil pass0 (pa_cons (pe_ix ix_tup (pv 0) pe_int (fun _ _ => rfl)) (pa_cons (pv 1) pa_nil))))
    (pss_cons (ps_set (i := 3) sc_Lvalue.nd rfl (Or.inl rfl) (pe_call G_Lvalue (hr.mono (by first | decide | omega)) (by rfl) T.m_Lvalue T.F_Lvalue.kp (b_Lvalue T) .nil pass0 (pa_cons (pe_ix ix_tup (pv 0) pe_int (fun _ _ => rfl)) (pa_cons (pv 1) pa_nil))))
    (pss_one (ps_ret (pe_op op_mod (pe_ix ix_list (pe_lst (pa_cons (pe_op op_add (pv 2) (pv 3)) (pa_cons (pe_op op_sub (pv 2) (pv 3)) pa_nil))) (pe_callTy (T := "int") call_int1 (by rfl) T.z_int (by decide +kernel) (pa_cons (pe_cmpR op_eq (pe_ix ix_tup (pv 0) pe_int (fun _ _ => rfl)) pe_str (nomark _)) pa_nil)) (fun _ _ => rfl)) pe_int))))))), ?_⟩
    cases s with
    | num m =>
      obtain ⟨a, rfl, hS⟩ := tm_num hv
      cases he
      refine st_seq (st_yes (a_eq (v_ixT (val_var rfl) val_c hS rfl) val_c rfl (by decide +kernel)) ?_)
      exact st_ret (v_ixT (val_var rfl) val_c hS rfl) (q H (Same.refl H))
    | nm x =>
      obtain ⟨a, rfl, hS⟩ := tm_nm hv
      refine st_seq (st_no (a_eq (v_ixT (val_var rfl) val_c hS rfl) val_c rfl (by decide +kernel)) ?_)
      refine st_seq (st_yes (a_eq (v_ixT (val_var rfl) val_c hS rfl) val_c rfl (by decide +kernel)) ?_)
      exact st_ret (v_dget (val_var rfl) (v_ixT (val_var rfl) val_c hS rfl) hd (by rw [hf, show r x = some i from he]; rfl)) (q H (Same.refl H))
    | op l a b =>
      obtain ⟨a', x, y, rfl, hS, hx, hy⟩ := tm_op hv
      have n1 : decide (V.str (kwO l) = V.str "number") = false := by cases l <;> decide +kernel
      have n2 : decide (V.str (kwO l) = V.str "name") = false := by cases l <;> decide +kernel
      refine st_seq (st_no (a_eq (v_ixT (val_var rfl) val_c hS rfl) val_c rfl n1) ?_)
      refine st_seq (st_no (a_eq (v_ixT (val_var rfl) val_c hS rfl) val_c rfl n2) ?_)
      simp only [tev] at he
      cases ea : tev r a with
      | none => rw [ea] at he; cases he
      | some m =>
      cases eb : tev r b with
      | none => rw [ea, eb] at he; cases he
      | some n' =>
      rw [ea, eb] at he
      cases he
      simp only [tdep] at hl
      refine st_seq (c_call (va_cons (v_ixT (val_var rfl) val_c hS rfl) (va_cons (val_var rfl) va_nil)) ⟨x, dd, n, f, a, r, m, rfl, hx, hd, hf, ea, by omega, fun H1 e1 => ?_⟩)
      refine st_seq (c_call (va_cons (v_ixT (val_var rfl) val_c (same_tup e1 hS) rfl) (va_cons (val_var rfl) va_nil)) ⟨y, dd, n, f, b, r, n', rfl, dp_mono e1 hy, hd.mono e1, hf, eb, by omega, fun H2 e2 => ?_⟩)
      refine c_ret (c_opL (c_opL (c_lstV (va_cons (v_I0 (val_var rfl) (val_var rfl)) (va_cons (v_I0 (val_var rfl) (val_var rfl)) va_nil)) (by simp) fun p hp => ?_)))
      have e3 := e1.trans (e2.trans (same_new (o := .lst [.int (m + n'), .int (m - n')]) hp))
      refine c_val (v_int_bl (v_eq (v_ixT (val_var rfl) val_c (same_tup e3 hS) rfl) val_c rfl)) ?_
      refine ⟨p, _, _, .int (if l then m - n' else m + n'), rfl, rfl, SqL.of upd_same, by cases l <;> rfl, ?_⟩
      exact c_val val_c ⟨_, _, rfl, rfl, (show (0 : Int) < 1000 by decide), q _ e3⟩
end
end Wn
end
section
set_option Elab.async false
set_option linter.all false
set_option maxRecDepth 100000
set_option maxHeartbeats 4000000
namespace Wn
open PySem PySem.Spec PyProof.Rows L2
def partsT : Tms → List Tms
  | .num _ => []
  | .nm _ => []
  | .op _ a b => [a, b]
/-- parts_of a simple term -/
def spParts (K : PySem.W.Frag) : Sp := fun vs H Q _ => ∃ v s, vs = [v] ∧ Dp K H v (encT s) ∧ ∀ p H' ys, Same H H' → SqT K H' p ys → DpAll K H' ys ((partsT s).map encT) → Q (.ref p) H'
/-- the places of a simple term: as many as it has parts -/
def spPlaces (K : PySem.W.Frag) (d : Nat) : Sp := fun vs H Q _ => ∃ v s pl xs, vs = [v, .ref pl] ∧ Dp K H v (encT s) ∧ SqT K H pl xs ∧ xs.length + d ≤ 100 ∧ d ≤ 10 ∧ tdep s ≤ d ∧ ∀ p H' ys, Same H H' → H' p = some (.lst ys) → ys.length = tsz s → Q (.ref p) H'
theorem tsz_le : ∀ s : Tms, tsz s < 2 ^ tdep s
  | .num _ => by simp [tsz, tdep]
  | .nm _ => by simp [tsz, tdep]
  | .op _ a b => by
    have h1 := tsz_le a
    have h2 := tsz_le b
    have h3 : 2 ^ tdep a ≤ 2 ^ (max (tdep a) (tdep b)) := Nat.pow_le_pow_right (by decide) (Nat.le_max_left _ _)
    have h4 : 2 ^ tdep b ≤ 2 ^ (max (tdep a) (tdep b)) := Nat.pow_le_pow_right (by decide) (Nat.le_max_right _ _)
    simp only [tsz, tdep]
    rw [Nat.pow_add]
    omega
theorem tsz_small {s : Tms} {d : Nat} (h : tdep s ≤ d) (hd : d ≤ 10) : tsz s ≤ 1024 := by
  have h1 := tsz_le s
  have h2 : 2 ^ tdep s ≤ 2 ^ 10 := Nat.pow_le_pow_right (by decide) (by omega)
  omega
section
variable {P : Program} {w : World} {K : PySem.W.Frag} {mg : Str → Option Value} {base : Heap} {ad : Nat → Addr} {fd : Nat → FuncData} {cL cT cN cB : Addr}
theorem ok_parts_of (T : Tx K mg ad fd cL cT cN cB) : FnOk P w K mg base CX0 1 (ad 2) (fd 2) ["term"] (spParts K) := by
  refine T.F_parts_of.ok sc_parts_of (fun vs H Q E h => ?_) (fun cdv A outer s H vs Q E hr h => ?_)
  · obtain ⟨v, s, rfl, _⟩ := h
    rfl
  obtain ⟨v, s, rfl, hv, q⟩ := h
  refine ⟨_, (pss_cons (ps_if (PW.pt (pw_or (pt_cmpR op_eq (pe_ix ix_tup (pv 0) pe_int (fun _ _ => rfl)) pe_str (nomark _)) (pw_or1 (pt_cmpR op_eq (pe_ix ix_tup (pv 0) pe_int (fun _ _ => rfl)) pe_str (nomark _))))) (pss_one (ps_ret (pe_tup pa_nil))) pss_nil)
    (pss_cons (ps_if (pt_cmpR op_eq (pe_ix ix_tup (pv 0) pe_int (fun _ _ => rfl)) pe_str (nomark _)) pss_never pss_nil)
    (pss_cons (ps_if (pt_cmpR op_eq (pe_ix ix_tup (pv 0) pe_int (fun _ _ => rfl)) pe_str (nomark _)) pss_never pss_nil)
    (pss_one (ps_ret (pe_slice sl_tupA (pv 0) (po_some pe_int) po_none)))))), ?_⟩
  cases s with
  | num m =>
    obtain ⟨a, rfl, hS⟩ := tm_num hv
    refine st_seq (st_yes (a_or (b1 := true) (b2 := true) (a_eq (v_ixT (val_var rfl) val_c hS rfl) val_c rfl (by decide +kernel)) (fun z => by cases z)) ?_)
    exact c_ret (c_tupV va_nil (by simp) fun p hp => q p _ [] (same_new hp) (SqT.of upd_same) .nil)
  | nm x =>
    obtain ⟨a, rfl, hS⟩ := tm_nm hv
    refine st_seq (st_yes (a_or (b1 := false) (b2 := true) (a_eq (v_ixT (val_var rfl) val_c hS rfl) val_c rfl (by decide +kernel)) (fun _ => a_eq (v_ixT (val_var rfl) val_c hS rfl) val_c rfl (by decide +kernel))) ?_)
    exact c_ret (c_tupV va_nil (by simp) fun p hp => q p _ [] (same_new hp) (SqT.of upd_same) .nil)
  | op l a b =>
    obtain ⟨a', x, y, rfl, hS, hx, hy⟩ := tm_op hv
    have n1 : decide (V.str (kwO l) = V.str "number") = false := by cases l <;> decide +kernel
    have n2 : decide (V.str (kwO l) = V.str "name") = false := by cases l <;> decide +kernel
    have n3 : decide (V.str (kwO l) = V.str "ask") = false := by cases l <;> decide +kernel
    have n4 : decide (V.str (kwO l) = V.str "let") = false := by cases l <;> decide +kernel
    refine st_seq (st_no (a_or (b1 := false) (b2 := false) (a_eq (v_ixT (val_var rfl) val_c hS rfl) val_c rfl n1) (fun _ => a_eq (v_ixT (val_var rfl) val_c hS rfl) val_c rfl n2)) ?_)
    refine st_seq (st_no (a_eq (v_ixT (val_var rfl) val_c hS rfl) val_c rfl n3) ?_)
    refine st_seq (st_no (a_eq (v_ixT (val_var rfl) val_c hS rfl) val_c rfl n4) ?_)
    exact c_ret (c_slA (val_var rfl) hS (to_some val_c) to_none (ys := [x, y]) rfl fun p H' e1 h1 => q p H' [x, y] e1 h1 (.cons (dp_mono e1 hx) (.cons (dp_mono e1 hy) .nil)))
theorem ok_places_in (T : Tx K mg ad fd cL cT cN cB) : ∀ d, FnOk P w K mg base CX0 (d + 1) (ad 3) (fd 3) ["term", "place"] (spPlaces K d)
  | 0 => none_left fun vs H Q E h => by
    obtain ⟨v, s, pl, xs, _, _, _, _, _, h, _⟩ := h
    cases s <;> simp only [tdep] at h <;> omega
  | d + 1 => by
    have G_places_in := ok_places_in T d
    have G_parts_of := ok_parts_of (P := P) (w := w) (base := base) T
    refine T.F_places_in.ok sc_places_in (fun vs H Q E h => ?_) (fun cdv A outer s H vs Q E hr h => ?_)
    · obtain ⟨v, s, pl, xs, rfl, _⟩ := h
      rfl
    obtain ⟨v, s, pl, xs, rfl, hv, hp, hl, hd, hs, q⟩ := h
    refine ⟨_, (pss_cons (ps_set (i := 2) sc_places_in.nd rfl (Or.inl rfl) (pe_lst (pa_cons (pv 1) pa_nil)))
    (pss_cons (ps_for PassesOwn.never rfl (pi_enumT (by rfl) T.z_enumerate (pa_cons (pe_call G_parts_of (hr.mono (by first | decide | omega)) (by rfl) T.m_parts_of T.F_parts_of.kp (b_parts_of T) .nil pass0 (pa_cons (pv 0) pa_nil)) pa_nil)) (pg_tup (by rfl) (pgs_cons (pg_name (i := 3) sc_places_in.nd rfl (Or.inl rfl)) (pgs_cons (pg_name (i := 4) sc_places_in.nd rfl (Or.inl rfl)) pgs_nil)))
    (pss_one (ps_expr (pe_bm PySem.F.plainAttrs_list PySem.F.slot_list_extend PySem.F.type_list_extend mt_extend (pv 2) (pa_cons (pe_call G_places_in (hr.mono (by first | decide | omega)) (by rfl) T.m_places_in T.F_places_in.kp (b_places_in T) .nil pass0 (pa_cons (pv 4) (pa_cons (pe_op op_catA (pv 1) (pe_tup (pa_cons (pv 3) pa_nil))) pa_nil))) pa_nil)))))
    (pss_one (ps_ret (pv 2))))), ?_⟩
    have tk := ∀ v : V, v = v
    refine st_seq (c_set (c_lstV (va_cons (val_var rfl) va_nil) (by simp) fun f hf => ?_))
    have e0 : Same H (upd H f (.lst [.ref pl])) := same_new hf
    refine st_seq (c_callL (c_cons (c_val (val_var rfl) (c_nil ⟨v, s, rfl, dp_mono e0 hv, fun p H1 ys e1 h1 hy => ?_⟩))))
    have hf1 : H1 f = some (.lst [.ref pl]) := e1 _ _ upd_same
    have mf : Mut (H1 f) := by rw [hf1]; trivial
    have hsz := tsz_small hs hd
    have htz : tsz s = 1 + tszs (partsT s) := by cases s <;> simp [tsz, tszs, partsT]; omega
    refine c_nil ⟨p, ys, rfl, h1, for_enumT (xs := ys) (fun i σ H' => ∃ a3 a4 fs, σ = [some v, some (.ref pl), some (.ref f), a3, a4] ∧ But (fun b => b = f) H1 H' ∧ H' f = some (.lst fs) ∧ fs.length = 1 + tszs ((partsT s).take i)) ?_ ?_ ?_ ?_⟩
    · exact ⟨none, none, [.ref pl], rfl, But.refl, hf1, rfl⟩
    · rintro i σ H' _ ⟨a3, a4, fs, _, e2, _, _⟩
      exact but_tup e2 (mutS1 mf) h1
    · rintro i x σ H' p' hx ⟨a3, a4, fs, rfl, e2, hfs, hlen⟩ hp'
      refine ⟨p', _, rfl, SqT.of upd_same, rfl, _, _, rfl, _, _, rfl, rfl, ?_⟩
      have e3 : Same H' (upd H' p' (.tup [.int (i : Nat), x])) := same_new hp'
      have e4 : But (fun b => b = f) H1 (upd H' p' (.tup [.int (i : Nat), x])) := e2.trans (But.of e3)
      have eH := but_same e4 (e0.trans e1) hf
      refine c_drop (c_bm (val_var rfl) ⟨_, SqL.of (e3 _ _ hfs)⟩ (c_cons ?_))
      refine c_callL (c_cons (c_val (val_var rfl) (c_cons (c_opL (c_val (val_var rfl) (c_tupV (va_cons (val_var rfl) va_nil) (by simp) fun q1 hq1 => ?_))))))
      have e5 := same_new (o := .tup [.int (i : Nat)]) hq1
      refine r_catA (same_tup (eH.trans e5) hp) (SqT.of upd_same) (by simp; omega) fun p2 H2 e6 h2 => c_nil ?_
      have hx' : ∃ t, (partsT s)[i]? = some t ∧ Dp K H1 x (encT t) := by
        have hl : i < ((partsT s).map encT).length := by
          rw [← dpa_length hy]
          exact (List.getElem?_eq_some_iff.mp hx).1
        rw [List.length_map] at hl
        obtain ⟨x', g1, g2⟩ := dpa_get hy (d := encT ((partsT s)[i])) (i := i) (by rw [List.getElem?_map, List.getElem?_eq_getElem hl]; rfl)
        rw [hx] at g1
        cases g1
        exact ⟨_, List.getElem?_eq_getElem hl, g2⟩
      obtain ⟨t, ht, dx⟩ := hx'
      have e7 := e5.trans e6
      refine ⟨x, t, p2, _, rfl, dp_mono e7 (but_dp e4 (mutS1 mf) (noL_T t) dx), h2, by simp; omega, by omega, ?_, fun r H3 zs e8 hr3 hz => ?_⟩
      · have tm : t ∈ partsT s := List.mem_of_getElem? ht
        cases s with
        | num _ => cases tm
        | nm _ => cases tm
        | op l a b =>
          simp only [tdep] at hs
          simp only [partsT, List.mem_cons, List.not_mem_nil, or_false] at tm
          rcases tm with rfl | rfl <;> omega
      · have e9 := e7.trans e8
        have hf3 : H3 f = some (.lst fs) := e9 _ _ (e3 _ _ hfs)
        have tk : (partsT s).take (i + 1) = (partsT s).take i ++ [t] := by rw [List.take_add_one, ht]; rfl
        have ts : tszs ((partsT s).take (i + 1)) = tszs ((partsT s).take i) + tsz t := by
          rw [tk]
          have key : ∀ l : List Tms, tszs (l ++ [t]) = tszs l + tsz t := by
            intro l
            induction l with
            | nil => simp [tszs]
            | cons a l ih => simp only [List.cons_append, tszs, ih]; omega
          exact key _
        have tle : tszs ((partsT s).take i) + tsz t ≤ tszs (partsT s) := by
          rw [← ts]
          have key : ∀ (l : List Tms) (n : Nat), tszs (l.take n) ≤ tszs l := by
            intro l
            induction l with
            | nil => intro n; simp [tszs]
            | cons a l ih =>
              intro n
              cases n with
              | zero => simp [tszs]
              | succ n => simp only [List.take_succ_cons, tszs]; have := ih n; omega
          exact key _ _
        refine c_nil ⟨f, r, fs, zs, rfl, rfl, hf3, hr3, sz_of (by omega), ?_⟩
        refine ⟨_, _, _, rfl, ?_, upd_same, by rw [List.length_append, hlen, hz, ts]; omega⟩
        exact (e4.trans (But.of e9)).trans (But.mut rfl)
    · rintro σ H' ⟨a3, a4, fs, rfl, e2, hfs, hlen⟩
      have hl : ys.length = (partsT s).length := by rw [dpa_length hy, List.length_map]
      rw [hl, List.take_length] at hlen
      exact st_ret (val_var rfl) (q f H' fs (but_same e2 (e0.trans e1) hf) hfs (by rw [hlen, htz]))
end
end Wn
end
section
set_option Elab.async false
set_option linter.all false
set_option maxRecDepth 100000
set_option maxHeartbeats 4000000
namespace Wn
open PySem PySem.Spec PyProof.Rows L2
def innerT : Pts → List Pts
  | .give _ _ => []
  | .ask _ _ _ => []
  | .st _ _ _ T => [T]
  | .ite _ T U => [T, U]
  | .post _ _ T U => [T, U]
def innerS : Pts → List Tms
  | .give _ s => [s]
  | .ask _ ss _ => ss
  | .st _ _ s _ => [s]
  | .ite s _ _ => [s]
  | .post _ _ _ _ => []
def handP : Pts → Option Str
  | .give j _ => some j
  | .ask _ _ j => some j
  | _ => none
def spInnerT (K : PySem.W.Frag) : Sp := fun vs H Q _ => ∃ v p, vs = [v] ∧ Dp K H v (encP p) ∧ ∀ a H' ys, Same H H' → SqT K H' a ys → DpAll K H' ys ((innerT p).map encP) → Q (.ref a) H'
def spInnerS (K : PySem.W.Frag) : Sp := fun vs H Q _ => ∃ v p, vs = [v] ∧ Dp K H v (encP p) ∧ ∀ a H' ys, Same H H' → SqT K H' a ys → DpAll K H' ys ((innerS p).map encT) → Q (.ref a) H'
def spHand (K : PySem.W.Frag) : Sp := fun vs H Q _ => ∃ v p j, vs = [v] ∧ Dp K H v (encP p) ∧ handP p = some j ∧ Q (.str j) H
theorem kwS_ne {t : Bool} {x : Str} (h1 : decide (V.str "tell" = V.str x) = false) (h2 : decide (V.str "let" = V.str x) = false) : decide (V.str (kwS t) = V.str x) = false := by cases t; exact h2; exact h1
section
variable {P : Program} {w : World} {K : PySem.W.Frag} {mg : Str → Option Value} {base : Heap} {ad : Nat → Addr} {fd : Nat → FuncData} {cL cT cN cB : Addr}
theorem ok_inner_turned (T : Tx K mg ad fd cL cT cN cB) : FnOk P w K mg base CX0 1 (ad 4) (fd 4) ["part"] (spInnerT K) := by
  refine T.F_inner_turned.ok sc_inner_turned (fun vs H Q E h => ?_) (fun cdv A outer s H vs Q E hr h => ?_)
  · obtain ⟨v, s, rfl, _⟩ := h
    rfl
  obtain ⟨v, p, rfl, hv, q⟩ := h
  refine ⟨_, (pss_cons (ps_if (PW.pt (pw_or (pt_cmpR op_eq (pe_ix ix_tup (pv 0) pe_int (fun _ _ => rfl)) pe_str (nomark _)) (pw_or1 (pt_cmpR op_eq (pe_ix ix_tup (pv 0) pe_int (fun _ _ => rfl)) pe_str (nomark _))))) (pss_one (ps_ret (pe_tup pa_nil))) pss_nil)
    (pss_cons (ps_if (pt_cmpR op_eq (pe_ix ix_tup (pv 0) pe_int (fun _ _ => rfl)) pe_str (nomark _)) (pss_one (ps_ret (pe_slice sl_tupA (pv 0) (po_some pe_int) po_none))) pss_nil)
    (pss_one (ps_ret (pe_slice sl_tupA (pv 0) (po_some pe_int) po_none))))), ?_⟩
  cases p with
  | give j s =>
    obtain ⟨a, x, rfl, hS, hx⟩ := pp_give hv
    refine st_seq (st_yes (a_or (b1 := true) (b2 := true) (a_eq (v_ixT (val_var rfl) val_c hS rfl) val_c rfl (by decide +kernel)) (fun z => by cases z)) ?_)
    exact c_ret (c_tupV va_nil (by simp) fun p hp => q p _ [] (same_new hp) (SqT.of upd_same) .nil)
  | ask f ss j =>
    obtain ⟨a, t, xs, rfl, hS, ht, hx⟩ := pp_ask hv
    refine st_seq (st_yes (a_or (b1 := false) (b2 := true) (a_eq (v_ixT (val_var rfl) val_c hS rfl) val_c rfl (by decide +kernel)) (fun _ => a_eq (v_ixT (val_var rfl) val_c hS rfl) val_c rfl (by decide +kernel))) ?_)
    exact c_ret (c_tupV va_nil (by simp) fun p hp => q p _ [] (same_new hp) (SqT.of upd_same) .nil)
  | st tl x s U =>
    obtain ⟨a, y, z, rfl, hS, hy, hz⟩ := pp_st hv
    refine st_seq (st_no (a_or (b1 := false) (b2 := false) (a_eq (v_ixT (val_var rfl) val_c hS rfl) val_c rfl (kwS_ne (by decide +kernel) (by decide +kernel))) (fun _ => a_eq (v_ixT (val_var rfl) val_c hS rfl) val_c rfl (kwS_ne (by decide +kernel) (by decide +kernel)))) ?_)
    refine st_seq (st_no (a_eq (v_ixT (val_var rfl) val_c hS rfl) val_c rfl (kwS_ne (by decide +kernel) (by decide +kernel))) ?_)
    exact c_ret (c_slA (val_var rfl) hS (to_some val_c) to_none (ys := [z]) rfl fun p H' e1 h1 => q p H' [z] e1 h1 (.cons (dp_mono e1 hz) .nil))
  | ite s T U =>
    obtain ⟨a, x, y, z, rfl, hS, hx, hy, hz⟩ := pp_ite hv
    refine st_seq (st_no (a_or (b1 := false) (b2 := false) (a_eq (v_ixT (val_var rfl) val_c hS rfl) val_c rfl (by decide +kernel)) (fun _ => a_eq (v_ixT (val_var rfl) val_c hS rfl) val_c rfl (by decide +kernel))) ?_)
    refine st_seq (st_yes (a_eq (v_ixT (val_var rfl) val_c hS rfl) val_c rfl (by decide +kernel)) ?_)
    exact c_ret (c_slA (val_var rfl) hS (to_some val_c) to_none (ys := [y, z]) rfl fun p H' e1 h1 => q p H' [y, z] e1 h1 (.cons (dp_mono e1 hy) (.cons (dp_mono e1 hz) .nil)))
  | post j x T U =>
    obtain ⟨a, y, z, rfl, hS, hy, hz⟩ := pp_post hv
    refine st_seq (st_no (a_or (b1 := false) (b2 := false) (a_eq (v_ixT (val_var rfl) val_c hS rfl) val_c rfl (by decide +kernel)) (fun _ => a_eq (v_ixT (val_var rfl) val_c hS rfl) val_c rfl (by decide +kernel))) ?_)
    refine st_seq (st_no (a_eq (v_ixT (val_var rfl) val_c hS rfl) val_c rfl (by decide +kernel)) ?_)
    exact c_ret (c_slA (val_var rfl) hS (to_some val_c) to_none (ys := [y, z]) rfl fun p H' e1 h1 => q p H' [y, z] e1 h1 (.cons (dp_mono e1 hy) (.cons (dp_mono e1 hz) .nil)))
theorem ok_inner_simple (T : Tx K mg ad fd cL cT cN cB) : FnOk P w K mg base CX0 1 (ad 5) (fd 5) ["part"] (spInnerS K) := by
  refine T.F_inner_simple.ok sc_inner_simple (fun vs H Q E h => ?_) (fun cdv A outer s H vs Q E hr h => ?_)
  · obtain ⟨v, s, rfl, _⟩ := h
    rfl
  obtain ⟨v, p, rfl, hv, q⟩ := h
  refine ⟨_, (pss_cons (ps_if (pt_cmpR op_eq (pe_ix ix_tup (pv 0) pe_int (fun _ _ => rfl)) pe_str (nomark _)) (pss_one (ps_ret (pe_ix ix_tup (pv 0) pe_int (fun _ _ => rfl)))) pss_nil)
    (pss_cons (ps_if (pt_cmpR op_eq (pe_ix ix_tup (pv 0) pe_int (fun _ _ => rfl)) pe_str (nomark _)) (pss_one (ps_ret (pe_tup pa_nil))) pss_nil)
    (pss_cons (ps_if (pt_cmpR op_eq (pe_ix ix_tup (pv 0) pe_int (fun _ _ => rfl)) pe_str (nomark _)) (pss_one (ps_ret (pe_tup (pa_cons (pe_ix ix_tup (pv 0) pe_int (fun _ _ => rfl)) pa_nil)))) pss_nil)
    (pss_one (ps_ret (pe_tup (pa_cons (pe_ix ix_tup (pv 0) pe_int (fun _ _ => rfl)) pa_nil))))))), ?_⟩
  cases p with
  | give j s =>
    obtain ⟨a, x, rfl, hS, hx⟩ := pp_give hv
    refine st_seq (st_no (a_eq (v_ixT (val_var rfl) val_c hS rfl) val_c rfl (by decide +kernel)) ?_)
    refine st_seq (st_no (a_eq (v_ixT (val_var rfl) val_c hS rfl) val_c rfl (by decide +kernel)) ?_)
    refine st_seq (st_no (a_eq (v_ixT (val_var rfl) val_c hS rfl) val_c rfl (by decide +kernel)) ?_)
    exact c_ret (c_tupV (va_cons (v_ixT (val_var rfl) val_c hS rfl) va_nil) (by simp) fun p hp => q p _ [x] (same_new hp) (SqT.of upd_same) (.cons (dp_mono (same_new hp) hx) .nil))
  | ask f ss j =>
    obtain ⟨a, t, xs, rfl, hS, ht, hx⟩ := pp_ask hv
    refine st_seq (st_yes (a_eq (v_ixT (val_var rfl) val_c hS rfl) val_c rfl (by decide +kernel)) ?_)
    exact st_ret (v_ixT (val_var rfl) val_c hS rfl) (q t H xs (Same.refl H) ht hx)
  | st tl x s U =>
    obtain ⟨a, y, z, rfl, hS, hy, hz⟩ := pp_st hv
    refine st_seq (st_no (a_eq (v_ixT (val_var rfl) val_c hS rfl) val_c rfl (kwS_ne (by decide +kernel) (by decide +kernel))) ?_)
    refine st_seq (st_no (a_eq (v_ixT (val_var rfl) val_c hS rfl) val_c rfl (kwS_ne (by decide +kernel) (by decide +kernel))) ?_)
    refine st_seq (st_no (a_eq (v_ixT (val_var rfl) val_c hS rfl) val_c rfl (kwS_ne (by decide +kernel) (by decide +kernel))) ?_)
    exact c_ret (c_tupV (va_cons (v_ixT (val_var rfl) val_c hS rfl) va_nil) (by simp) fun p hp => q p _ [y] (same_new hp) (SqT.of upd_same) (.cons (dp_mono (same_new hp) hy) .nil))
  | ite s T U =>
    obtain ⟨a, x, y, z, rfl, hS, hx, hy, hz⟩ := pp_ite hv
    refine st_seq (st_no (a_eq (v_ixT (val_var rfl) val_c hS rfl) val_c rfl (by decide +kernel)) ?_)
    refine st_seq (st_no (a_eq (v_ixT (val_var rfl) val_c hS rfl) val_c rfl (by decide +kernel)) ?_)
    refine st_seq (st_yes (a_eq (v_ixT (val_var rfl) val_c hS rfl) val_c rfl (by decide +kernel)) ?_)
    exact c_ret (c_tupV (va_cons (v_ixT (val_var rfl) val_c hS rfl) va_nil) (by simp) fun p hp => q p _ [x] (same_new hp) (SqT.of upd_same) (.cons (dp_mono (same_new hp) hx) .nil))
  | post j x T U =>
    obtain ⟨a, y, z, rfl, hS, hy, hz⟩ := pp_post hv
    refine st_seq (st_no (a_eq (v_ixT (val_var rfl) val_c hS rfl) val_c rfl (by decide +kernel)) ?_)
    refine st_seq (st_yes (a_eq (v_ixT (val_var rfl) val_c hS rfl) val_c rfl (by decide +kernel)) ?_)
    exact c_ret (c_tupV va_nil (by simp) fun p hp => q p _ [] (same_new hp) (SqT.of upd_same) .nil)
theorem ok_hand_of (T : Tx K mg ad fd cL cT cN cB) : FnOk P w K mg base CX0 1 (ad 6) (fd 6) ["part"] (spHand K) := by
  refine T.F_hand_of.ok sc_hand_of (fun vs H Q E h => ?_) (fun cdv A outer s H vs Q E hr h => ?_)
  · obtain ⟨v, s, j, rfl, _⟩ := h
    rfl
  obtain ⟨v, p, j, rfl, hv, hj, q⟩ := h
  refine ⟨_, (pss_one (ps_ret (pe_ifExp (pt_cmpR op_eq (pe_ix ix_tup (pv 0) pe_int (fun _ _ => rfl)) pe_str (nomark _)) (pe_ix ix_tup (pv 0) pe_int (fun _ _ => rfl)) (pe_ix ix_tup (pv 0) pe_int (fun _ _ => rfl))))), ?_⟩
  cases p with
  | give j s =>
    obtain ⟨a, x, rfl, hS, hx⟩ := pp_give hv
    cases hj
    exact st_ret (v_ifT (a_eq (v_ixT (val_var rfl) val_c hS rfl) val_c rfl (by decide +kernel)) (v_ixT (val_var rfl) val_c hS rfl)) q
  | ask f ss j =>
    obtain ⟨a, t, xs, rfl, hS, ht, hx⟩ := pp_ask hv
    cases hj
    exact st_ret (v_ifF (a_eq (v_ixT (val_var rfl) val_c hS rfl) val_c rfl (by decide +kernel)) (v_ixT (val_var rfl) val_c hS rfl)) q
  | st tl x s U => cases hj
  | ite s T U => cases hj
  | post j x T U => cases hj
end
end Wn
end
section
set_option Elab.async false
set_option linter.all false
set_option maxRecDepth 100000
set_option maxHeartbeats 4000000
namespace Wn
open PySem PySem.Spec PyProof.Rows L2
/-- s with other words -/
def spTermBy (K : PySem.W.Frag) (d : Nat) : Sp := fun vs H Q _ => ∃ v dd n f s ws, vs = [v, .ref dd] ∧ Dp K H v (encT s) ∧ DK H dd n f ∧ (∀ x, f x = (ws x).map V.str) ∧ (∃ xs, WFt xs s ∧ ∀ x ∈ xs, ∃ w, ws x = some w) ∧ tdep s ≤ d ∧
  ∀ v' H', Same H H' → Dp K H' v' (encT (ren ws s)) → Q v' H'
section
variable {P : Program} {w : World} {K : PySem.W.Frag} {mg : Str → Option Value} {base : Heap} {ad : Nat → Addr} {fd : Nat → FuncData} {cL cT cN cB : Addr}
theorem ok_term_by (T : Tx K mg ad fd cL cT cN cB) : ∀ d, FnOk P w K mg base CX0 d (ad 8) (fd 8) ["term", "words"] (spTermBy K d)
  | 0 => none_left fun vs H Q E h => by
    obtain ⟨v, dd, n, f, s, ws, _, _, _, _, _, h, _⟩ := h
    cases s <;> simp only [tdep] at h <;> omega
  | d + 1 => by
    have G_term_by := ok_term_by T d
    refine T.F_term_by.ok sc_term_by (fun vs H Q E h => ?_) (fun cdv A outer s H vs Q E hr h => ?_)
    · obtain ⟨v, dd, n, f, s, ws, rfl, _⟩ := h
      rfl
    obtain ⟨v, dd, n, f, s, ws, rfl, hv, hd, hf, ⟨xs, hw, hc⟩, hl, q⟩ := h
    refine ⟨_, (pss_cons (ps_if (pt_cmpR op_eq (pe_ix ix_tup (pv 0) pe_int (fun _ _ => rfl)) pe_str (nomark _)) (pss_one (ps_ret (pv 0))) pss_nil)
    (pss_cons (ps_if (pt_cmpR op_eq (pe_ix ix_tup (pv 0) pe_int (fun _ _ => rfl)) pe_str (nomark _)) (pss_one (ps_ret (pe_tup (pa_cons pe_str (pa_cons (pe_dget (hu_of hr) (pv 1) (pe_ix ix_tup (pv 0) pe_int (fun _ _ => rfl)) (fun _ _ => rfl)) pa_nil))))) pss_nil)
    (pss_cons (ps_if (pt_cmpR op_eq (pe_ix ix_tup (pv 0) pe_int (fun _ _ => rfl)) pe_str (nomark _)) pss_never pss_nil)
    (pss_cons (ps_if (pt_cmpR op_eq (pe_ix ix_tup (pv 0) pe_int (fun _ _ => rfl)) pe_str (nomark _)) pss_never pss_nil)
    (pss_one (ps_ret (pe_op op_catA (pe_slice sl_tupA (pv 0) po_none (po_some pe_int)) (pe_callTy (T := "tuple") call_tuple_of (by rfl) T.z_tuple (by decide +kernel) (pa_cons (pe_lc (own := [("part", 2)]) (by rfl) sc_term_by.nd (pi_tup (pe_slice sl_tupA (pv 0) (po_some pe_int) po_none)) (blkOk_by (own := [("part", 2)]) (N := ["term", "words", "part"]) (sc := defScope s_term_by) (by decide +kernel)) (fun _ _ _ _ _ => (pg_name (i := 2) sc_term_by.nd rfl (Or.inl rfl))) (fun _ _ _ _ _ => pts_nil) (fun _ _ _ _ _ => (pe_call G_term_by (hr.mono (by first | decide | omega)) (by rfl) T.m_term_by T.F_term_by.kp (b_term_by T) .nil pass0 (pa_cons (pv 2) (pa_cons (pv 1) pa_nil))))) pa_nil))))))))), ?_⟩
    cases s with
    | num m =>
      obtain ⟨a, rfl, hS⟩ := tm_num hv
      refine st_seq (st_yes (a_eq (v_ixT (val_var rfl) val_c hS rfl) val_c rfl (by decide +kernel)) ?_)
      exact st_ret (val_var rfl) (q _ H (Same.refl H) hv)
    | nm x =>
      obtain ⟨a, rfl, hS⟩ := tm_nm hv
      obtain ⟨y, hy⟩ := hc x hw
      refine st_seq (st_no (a_eq (v_ixT (val_var rfl) val_c hS rfl) val_c rfl (by decide +kernel)) ?_)
      refine st_seq (st_yes (a_eq (v_ixT (val_var rfl) val_c hS rfl) val_c rfl (by decide +kernel)) ?_)
      refine c_ret (c_tupV (va_cons val_c (va_cons (v_dget (val_var rfl) (v_ixT (val_var rfl) val_c hS rfl) hd (by rw [hf, hy]; rfl)) va_nil)) (by simp) fun p hp => q _ _ (same_new hp) ?_)
      have e : ren ws (.nm x) = .nm y := by simp only [ren, hy, Option.getD]
      rw [e]
      exact mk_nm upd_same
    | op l a b =>
      obtain ⟨a', x, y, rfl, hS, hx, hy⟩ := tm_op hv
      have n1 : decide (V.str (kwO l) = V.str "number") = false := by cases l <;> decide +kernel
      have n2 : decide (V.str (kwO l) = V.str "name") = false := by cases l <;> decide +kernel
      have n3 : decide (V.str (kwO l) = V.str "ask") = false := by cases l <;> decide +kernel
      have n4 : decide (V.str (kwO l) = V.str "let") = false := by cases l <;> decide +kernel
      refine st_seq (st_no (a_eq (v_ixT (val_var rfl) val_c hS rfl) val_c rfl n1) ?_)
      refine st_seq (st_no (a_eq (v_ixT (val_var rfl) val_c hS rfl) val_c rfl n2) ?_)
      refine st_seq (st_no (a_eq (v_ixT (val_var rfl) val_c hS rfl) val_c rfl n3) ?_)
      refine st_seq (st_no (a_eq (v_ixT (val_var rfl) val_c hS rfl) val_c rfl n4) ?_)
      simp only [tdep] at hl
      refine c_ret (c_opL (c_slA (val_var rfl) hS to_none (to_some val_c) (ys := [.str (kwO l)]) rfl fun p1 H1 e1 h1 => ?_))
      refine c_cbL (c_cons (c_slA (val_var rfl) (same_tup e1 hS) (to_some val_c) to_none (ys := [x, y]) rfl fun p2 H2 e2 h2 => ?_))
      have e12 := e1.trans e2
      refine ⟨p2, rfl, ⟨_, h2⟩, fun D hD => ?_⟩
      refine lc_mapT hD h2 [encT (ren ws a), encT (ren ws b)] rfl ⟨noL_T _, noL_T _, trivial⟩ (by simp) (fun i z d' H' R hz hd' e3 r => ?_) (fun H3 acc e3 hD3 hacc => ?_) (fun x σ H P R m h => m _ _ h)
      · refine ⟨rfl, c_call (va_cons (val_var rfl) (va_cons (val_var rfl) va_nil)) ?_⟩
        have e4 := e12.trans e3
        match i, hz, hd' with
        | 0, hz, hd' =>
          cases hz; cases hd'
          exact ⟨x, dd, n, f, a, ws, rfl, dp_mono e4 hx, hd.mono e4, hf, ⟨xs, hw.1, hc⟩, by omega, fun v' H' e5 h5 => r v' H' e5 h5⟩
        | 1, hz, hd' =>
          cases hz; cases hd'
          exact ⟨y, dd, n, f, b, ws, rfl, dp_mono e4 hy, hd.mono e4, hf, ⟨xs, hw.2, hc⟩, by omega, fun v' H' e5 h5 => r v' H' e5 h5⟩
        | _ + 2, hz, _ => exact absurd hz (by simp)
      · obtain ⟨z1, r1, rfl, d1, hacc⟩ := dpa_cons hacc
        obtain ⟨z2, r2, rfl, d2, hacc⟩ := dpa_cons hacc
        cases dpa_nil hacc
        have e4 := e2.trans e3
        refine c_nil ⟨D, _, rfl, .inl ⟨SqL.of hD3, fun t ht => ?_⟩⟩
        have e5 := e4.trans (same_new (o := .tup [z1, z2]) ht)
        refine r_catA (same_tup e5 h1) (SqT.of upd_same) (by simp) fun p3 H4 e6 h3 => ?_
        have e7 := (same_new (o := .tup [z1, z2]) ht).trans e6
        exact q _ _ (e1.trans (e5.trans e6)) (.tup h3 (.cons (.str _) (.cons (dp_mono e7 d1) (.cons (dp_mono e7 d2) .nil))))
end
end Wn
end
section
set_option Elab.async false
set_option linter.all false
set_option maxRecDepth 100000
set_option maxHeartbeats 4000000
namespace Wn
open PySem PySem.Spec PyProof.Rows L2
def wdigs (k : Nat) : List Nat := if h : k < 26 then [97 + k] else wdigs (k / 26) ++ [97 + k % 26]
termination_by k
decreasing_by omega
def wordOf (k : Nat) : Str := ⟨(wdigs k ++ [113]).toArray⟩
theorem wdigs_lt {k : Nat} (h : k < 26) : wdigs k = [97 + k] := by rw [wdigs, dif_pos h]
theorem wdigs_ge {k : Nat} (h : ¬ k < 26) : wdigs k = wdigs (k / 26) ++ [97 + k % 26] := by rw [wdigs, dif_neg h]
def wval (l : List Nat) : Nat := l.foldl (fun a c => a * 26 + (c - 97)) 0
theorem wval_wdigs (k : Nat) : wval (wdigs k) = k := by
  induction k using Nat.strongRecOn with
  | _ k ih =>
    by_cases h : k < 26
    · rw [wdigs_lt h]
      simp [wval]
    · rw [wdigs_ge h]
      have e := ih (k / 26) (by omega)
      unfold wval at e ⊢
      rw [List.foldl_append, e]
      simp only [List.foldl_cons, List.foldl_nil]
      omega
theorem wordOf_inj (a b : Nat) (h : wordOf a = wordOf b) : a = b := by
  have e1 : (wdigs a ++ [113]).toArray = (wdigs b ++ [113]).toArray := congrArg Str.cps h
  have e2 : wdigs a ++ [113] = wdigs b ++ [113] := by simpa using e1
  have e3 : wdigs a = wdigs b := List.append_cancel_right e2
  rw [← wval_wdigs a, ← wval_wdigs b, e3]
theorem wordOf_home (a : Nat) : wordOf a ≠ ("home" : Str) := fun h => by
  have e1 : (wdigs a ++ [113]).toArray = ("home" : Str).cps := congrArg Str.cps h
  have e2 : wdigs a ++ [113] = [104, 111, 109, 101] := by
    have z : (("home" : Str).cps).toList = [104, 111, 109, 101] := by decide +kernel
    rw [← z, ← e1]
  have e3 : (wdigs a ++ [113]).getLast? = [104, 111, 109, 101].getLast? := by rw [e2]
  simp at e3
theorem letters_at : ∀ r : Nat, r < 26 → atI ("abcdefghijklmnopqrstuvwxyz" : Str).cps.toList (r : Int) = some (97 + r) := by decide +kernel
theorem letters_at' (k : Nat) : atI ("abcdefghijklmnopqrstuvwxyz" : Str).cps.toList ((k : Int) % 26) = some (97 + k % 26) := by
  have e : ((k : Int) % 26) = ((k % 26 : Nat) : Int) := by omega
  rw [e]
  exact letters_at _ (Nat.mod_lt _ (by decide))
theorem letters_len : ("abcdefghijklmnopqrstuvwxyz" : Str).length ≤ 100000 := by decide +kernel
theorem str_cons (c : Nat) (l : List Nat) : (⟨#[c]⟩ : Str) ++ (⟨l.toArray⟩ : Str) = ⟨(c :: l).toArray⟩ := by
  show (⟨#[c] ++ l.toArray⟩ : Str) = _
  simp
def spWord : Sp := fun vs H Q _ => ∃ k : Nat, vs = [.int k] ∧ k ≤ 10000 ∧ Q (.str (wordOf k)) H
section
variable {P : Program} {w : World} {K : PySem.W.Frag} {mg : Str → Option Value} {base : Heap} {ad : Nat → Addr} {fd : Nat → FuncData} {cL cT cN cB : Addr}
theorem ok_word_of (T : Tx K mg ad fd cL cT cN cB) : FnOk P w K mg base CX0 1 (ad 7) (fd 7) ["k"] spWord := by
  refine T.F_word_of.ok sc_word_of (fun vs H Q E h => ?_) (fun cdv A outer s H vs Q E hr h => ?_)
  · obtain ⟨k, rfl, _⟩ := h
    rfl
  obtain ⟨k, rfl, hk, q⟩ := h
  obtain ⟨tL, c_LETTERS⟩ := T.c_LETTERS
  refine ⟨_, (pss_cons (ps_set (i := 1) sc_word_of.nd rfl (Or.inl rfl) (pe_ix ix_str (pe_glob (v := .str "abcdefghijklmnopqrstuvwxyz") rfl c_LETTERS ⟨_, rfl⟩) (pe_op op_mod (pv 0) pe_int) (fun _ _ => rfl)))
    (pss_cons (ps_while PassesOwn.never (pt_cmpR op_ge (pv 0) pe_int (nomark _))
    (pss_cons (ps_set (i := 0) sc_word_of.nd rfl (Or.inl rfl) (pe_op op_fdiv (pv 0) pe_int))
    (pss_one (ps_set (i := 1) sc_word_of.nd rfl (Or.inl rfl) (pe_op op_add_str (pe_ix ix_str (pe_glob (v := .str "abcdefghijklmnopqrstuvwxyz") rfl c_LETTERS ⟨_, rfl⟩) (pe_op op_mod (pv 0) pe_int) (fun _ _ => rfl)) (pv 1))))))
    (pss_one (ps_ret (pe_op op_add_str (pv 1) pe_str))))), ?_⟩
  have p26 : (0 : Int) < 26 := by decide
  refine st_seq (st_set (v_ixS val_c (v_I (val_var rfl) val_c p26) letters_len (letters_at' k)) ?_)
  refine st_seq ?_
  refine ⟨fun m σ H' => ∃ (kc : Nat) (l : List Nat), σ = [some (.int kc), some (.str ⟨l.toArray⟩)] ∧ H' = H ∧ kc = m ∧ kc + l.length ≤ 10001 ∧ 1 ≤ l.length ∧ wdigs k = (if kc < 26 then l else wdigs (kc / 26) ++ l), ⟨k, k, [97 + k % 26], rfl, rfl, rfl, by simp; omega, by simp, ?_⟩, ?_⟩
  · by_cases h : k < 26
    · rw [if_pos h, wdigs_lt h, Nat.mod_eq_of_lt h]
    · rw [if_neg h, wdigs_ge h]
  rintro m σ H' ⟨kc, l, rfl, rfl, rfl, hl, h1, hw⟩
  by_cases h : kc < 26
  · refine (a_I0 (b := false) (val_var rfl) val_c (by show V.bl (decide ((26 : Int) ≤ (kc : Int))) = _; rw [decide_eq_false (by omega)])) _ ?_
    refine iteF ?_
    rw [if_pos h] at hw
    refine c_ret (c_val (v_str_add (val_var rfl) val_c ?_) ?_)
    · show (l.toArray).size + ("q" : Str).length ≤ 100000
      have e : ("q" : Str).length = 1 := by decide +kernel
      rw [e]; simp; omega
    · have e : (⟨l.toArray⟩ : Str) ++ ("q" : Str) = wordOf k := by
        have z : ("q" : Str) = ⟨#[113]⟩ := by decide +kernel
        rw [z]
        show (⟨l.toArray ++ #[113]⟩ : Str) = _
        unfold wordOf
        rw [hw]; simp
      rw [e]; exact q
  · refine (a_I0 (b := true) (val_var rfl) val_c (by show V.bl (decide ((26 : Int) ≤ (kc : Int))) = _; rw [decide_eq_true (by omega)])) _ ?_
    refine iteT ?_
    refine ⟨_, fun _ _ n => n, ?_⟩
    have e1 : ((kc : Int) / 26) = ((kc / 26 : Nat) : Int) := by omega
    refine sq_set (v_is (v_I (C := CDiv) (g := fun i j => .int (i / j)) (val_var rfl) val_c ⟨by decide, by decide⟩) (show V.int ((kc : Int) / 26) = .int ((kc / 26 : Nat) : Int) by rw [e1])) ?_
    refine c_set ?_
    refine c_val (v_str_add (v_ixS val_c (v_I (val_var rfl) val_c p26) letters_len (letters_at' (kc / 26))) (val_var rfl) (by show 1 + (l.toArray).size ≤ 100000; simp; omega)) ?_
    rw [str_cons]
    refine ⟨kc / 26, by omega, kc / 26, _, rfl, rfl, rfl, by simp only [List.length_cons]; omega, by simp, ?_⟩
    rw [if_neg h] at hw
    rw [hw]
    by_cases h2 : kc / 26 < 26
    · rw [if_pos h2, wdigs_lt h2, Nat.mod_eq_of_lt h2]; rfl
    · rw [if_neg h2, wdigs_ge h2, List.append_assoc]; rfl
end
end Wn
end
section
set_option Elab.async false
set_option linter.all false
set_option maxRecDepth 100000
set_option maxHeartbeats 4000000
namespace Wn
open PySem PySem.Spec PyProof.Rows L2
/-- the fields of a layer -/
def lfs (nm : Str) (wl : Addr) (k p m : Nat) : List (Str × V) := [("name", .str nm), ("words", .ref wl), ("named", .int k), ("posted", .int p), ("many", .int m)]
theorem lf_name {nm wl k p m} : (lfs nm wl k p m).lookup ("name" : Str) = some (V.str nm) := by rfl
theorem lf_words {nm wl k p m} : (lfs nm wl k p m).lookup ("words" : Str) = some (V.ref wl) := by rfl
theorem lf_named {nm wl k p m} : (lfs nm wl k p m).lookup ("named" : Str) = some (V.int k) := by rfl
theorem lf_posted {nm wl k p m} : (lfs nm wl k p m).lookup ("posted" : Str) = some (V.int p) := by rfl
theorem lf_many {nm wl k p m} : (lfs nm wl k p m).lookup ("many" : Str) = some (V.int m) := by rfl
theorem pf_named {nm wl k p m} {i : Nat} : putF "named" (.int i) (lfs nm wl k p m) = lfs nm wl i p m := by rfl
theorem pf_posted {nm wl k p m} {i : Nat} : putF "posted" (.int i) (lfs nm wl k p m) = lfs nm wl k i m := by rfl
theorem pf_many {nm wl k p m} {i : Nat} : putF "many" (.int i) (lfs nm wl k p m) = lfs nm wl k p i := by rfl
theorem putF_lt {n : Nat} {f : Str} {v : V} {fs : List (Str × V)} (h : fs.length < n) : (putF f v fs).length < n + 1 := Nat.lt_succ_of_le (Nat.le_trans (length_putF f v fs) h)
def lf1 (nm : Str) : List (Str × V) := [("name", .str nm)]
def lf2 (nm : Str) (wl : Addr) : List (Str × V) := [("name", .str nm), ("words", .ref wl)]
def lf3 (nm : Str) (wl : Addr) : List (Str × V) := [("name", .str nm), ("words", .ref wl), ("named", .int 0)]
def lf4 (nm : Str) (wl : Addr) : List (Str × V) := [("name", .str nm), ("words", .ref wl), ("named", .int 0), ("posted", .int 0)]
theorem pi_1 {nm : Str} : putF "name" (V.str nm) [] = lf1 nm := by rfl
theorem pi_2 {nm : Str} {wl : Addr} : putF "words" (V.ref wl) (lf1 nm) = lf2 nm wl := by rfl
theorem pi_3 {nm : Str} {wl : Addr} : putF "named" (V.int 0) (lf2 nm wl) = lf3 nm wl := by rfl
theorem pi_4 {nm : Str} {wl : Addr} : putF "posted" (V.int 0) (lf3 nm wl) = lf4 nm wl := by rfl
theorem pi_5 {nm : Str} {wl : Addr} : putF "many" (V.int 0) (lf4 nm wl) = lfs nm wl 0 0 0 := by rfl
/-- self.f = y -/
theorem sq_fld {K : PySem.W.Frag} {σ : L2.St} {H : Hp} {ta tv : TE} {a C dx : Addr} {fs fs' : List (Str × V)} {f : Str} {y : V} {D : Ends} {t2 : TS} (hv : Val tv σ H y) (ha : Val ta σ H (.ref a)) (ho : H a = some (.ins C dx fs)) (hc : Cls K C) (hn : NoAttr K C f) (hl : fs.length < 1000) (e : putF f y fs = fs')
    (q : t2 D σ (upd H a (.ins C dx fs'))) : tSeq (sFld K ta tv f) t2 D σ H := by
  subst e
  exact st_fld (D := { D with nx := t2 D }) hv ha ho hc hn hl q
theorem sq_fldC {K : PySem.W.Frag} {σ : L2.St} {H : Hp} {ta tv : TE} {f : Str} {D : Ends} {t2 : TS} (h : tv σ H fun y H1 => ta σ H1 fun x H2 => ∃ a C dx fs, x = .ref a ∧ H2 a = some (.ins C dx fs) ∧ Cls K C ∧ NoAttr K C f ∧ fs.length < 1000 ∧ t2 D σ (upd H2 a (.ins C dx (putF f y fs)))) :
    tSeq (sFld K ta tv f) t2 D σ H := h
theorem en_fld {K : PySem.W.Frag} {σ : L2.St} {H : Hp} {ta tv : TE} {a C dx : Addr} {fs fs' : List (Str × V)} {f : Str} {y : V} {D : Ends} (hv : Val tv σ H y) (ha : Val ta σ H (.ref a)) (ho : H a = some (.ins C dx fs)) (hc : Cls K C) (hn : NoAttr K C f) (hl : fs.length < 1000) (e : putF f y fs = fs')
    (q : D.nx σ (upd H a (.ins C dx fs'))) : sFld K ta tv f D σ H := by
  subst e
  exact st_fld hv ha ho hc hn hl q
theorem upd_eq {H : Hp} {x : Addr} {o : HO} (h : H x = some o) : upd H x o = H := by
  funext b
  by_cases e : b = x
  · rw [e, upd_same, h]
  · rw [upd_ne e]
theorem same_at {H H' : Hp} {x : Addr} {o o' : HO} (s : Same H H') (h : H x = some o) : But (fun b => b = x) H (upd H' x o') := (But.of s).trans (But.mut rfl)
theorem sql_ins {K : PySem.W.Frag} {H : Hp} {x a C dx : Addr} {fs : List (Str × V)} {o : HO} {xs : List V} (h : H x = some (.ins C dx fs)) (q : SqL K H a xs) : SqL K (upd H x o) a xs := by
  rcases q with (q | ⟨ob, q⟩) | q
  · exact .inl (.inl (by rw [upd_ne (ne_of q h (by intro z; cases z))]; exact q))
  · exact .inl (.inr ⟨ob, by rw [upd_ne (ne_of q h (by intro z; cases z))]; exact q⟩)
  · exact .inr q
theorem mut_ins {H : Hp} {x C dx : Addr} {fs : List (Str × V)} (h : H x = some (.ins C dx fs)) : Mut (H x) := by rw [h]; trivial
theorem inV_strs {w : Str} : ∀ {ws : List Str}, inV (.str w) (ws.map .str) = decide (w ∈ ws)
  | [] => rfl
  | y :: ws => by
    show (eqV (.str y) (.str w) || inV (.str w) (ws.map .str)) = _
    rw [inV_strs]
    show ((y == w) || decide (w ∈ ws)) = _
    by_cases e : y = w
    · subst e; simp
    · have e1 : (y == w) = false := by simpa using e
      rw [e1, Bool.false_or]
      by_cases h : w ∈ ws
      · rw [decide_eq_true h, decide_eq_true (List.mem_cons_of_mem _ h)]
      · rw [decide_eq_false h, decide_eq_false (by simp [h, Ne.symm e])]
theorem flat_strs : ∀ {ws : List Str}, (ws.map V.str).all flatV = true
  | [] => rfl
  | _ :: ws => by
    show (true && (ws.map V.str).all flatV) = true
    rw [flat_strs]; rfl
theorem pigeon {W : Type} {f : Nat → W} (inj : ∀ a b, f a = f b → a = b) : ∀ (n k : Nat) (l : List W), (∀ i, k ≤ i → i < k + n → f i ∈ l) → n ≤ l.length
  | 0, _, _, _ => Nat.zero_le _
  | n + 1, k, l, h => by
    obtain ⟨s, t, e⟩ := List.append_of_mem (h k (Nat.le_refl _) (by omega))
    have q := pigeon inj n (k + 1) (s ++ t) fun i h1 h2 => by
      have z := h i (by omega) (by omega)
      rw [e] at z
      rcases List.mem_append.mp z with z | z
      · exact List.mem_append_left _ z
      · rcases List.mem_cons.mp z with z | z
        · have := inj _ _ z; omega
        · exact List.mem_append_right _ z
    rw [e]
    simp only [List.length_append, List.length_cons] at q ⊢
    omega
/-- NextError.__init__, self.name = name -/
def spTG (cT : Addr) : Sp := fun vs H Q _ => ∃ a nm, vs = [.ref a, .str nm] ∧ H a = some (exo a cT none) ∧ ∀ dx, H dx = none → dx ≠ a → Q .non (upd (upd H dx (exd dx [("name", .str nm)])) a (exo a cT (some dx)))
def spLinit (cL : Addr) : Sp := fun vs H Q _ => ∃ x dx nm wl, vs = [.ref x, .str nm, .ref wl] ∧ H x = some (.ins cL dx []) ∧ Q .non (upd H x (.ins cL dx (lfs nm wl 0 0 0)))
def spNewWord (K : PySem.W.Frag) (cL : Addr) : Sp := fun vs H Q _ => ∃ (x dx : Addr) (nm : Str) (wl : Addr) (k p m : Nat) (used : List Str), vs = [.ref x] ∧ H x = some (.ins cL dx (lfs nm wl k p m)) ∧ SqL K H wl (used.map .str) ∧ used.length ≤ 4 ∧ k ≤ 5000 ∧
  ∀ i, k ≤ i → i ≤ k + 4 → wordOf i ∉ used → Q (.str (wordOf i)) (upd H x (.ins cL dx (lfs nm wl (i + 1) p m)))
def spNewHand (cL : Addr) : Sp := fun vs H Q _ => ∃ (x dx : Addr) (nm : Str) (wl : Addr) (k p m : Nat), vs = [.ref x] ∧ H x = some (.ins cL dx (lfs nm wl k p m)) ∧ p ≤ 5000 ∧ Q (.str (wordOf p)) (upd H x (.ins cL dx (lfs nm wl k (p + 1) m)))
def spCount (K : PySem.W.Frag) (cL cT : Addr) (d : Nat) : Sp := fun vs H Q E => ∃ (x dx : Addr) (nm : Str) (wl : Addr) (k p m : Nat) (sm : Addr) (ys : List V) (ss : List Tms), vs = [.ref x, .ref sm] ∧ H x = some (.ins cL dx (lfs nm wl k p m)) ∧ SqT K H sm ys ∧ DpAll K H ys (ss.map encT) ∧ ss.length ≤ 10 ∧ d ≤ 10 ∧ (∀ s ∈ ss, tdep s ≤ d) ∧
  (m + (1 + tszs ss) ≤ 200 → ∀ H1, Same H H1 → Q .non (upd H1 x (.ins cL dx (lfs nm wl k p (m + (1 + tszs ss)))))) ∧ (200 < m + (1 + tszs ss) → ∀ dd H', E (.ref cT) dd H')
section
variable {P : Program} {w : World} {K : PySem.W.Frag} {mg : Str → Option Value} {base : Heap} {ad : Nat → Addr} {fd : Nat → FuncData} {cL cT cN cB : Addr}
theorem ok_TooGreat_init (T : Tx K mg ad fd cL cT cN cB) : FnOk P w K mg base CX0 1 (ad 1) (fd 1) ["self", "name"] (spTG cT) := by
  refine T.F_TooGreat_init.ok sc_TooGreat_init (fun vs H Q E h => ?_) (fun cdv A outer s H vs Q E hr h => ?_)
  · obtain ⟨a, nm, rfl, _⟩ := h
    rfl
  obtain ⟨a, nm, rfl, ha, q⟩ := h
  refine ⟨_, (pss_cons (ps_expr (pe_neinit (by rfl) T.m_NextError T.rN T.gN T.vN (pa_cons (pv 0) (pa_cons pe_str pa_nil))))
    (pss_one (ps_ost (pv 0) (pv 1)))), ?_⟩
  refine sq_dropC ?_
  refine c_cons (c_val (val_var rfl) (c_cons (c_val val_c (c_nil ?_))))
  refine ⟨a, cT, _, rfl, by simp, T.oT, ha, ?_⟩
  refine c_val (val_var rfl) (c_val (val_var rfl) ?_)
  exact ⟨a, cT, rfl, T.oT, T.nT, .inl ⟨ha, q⟩⟩
theorem ok_Layer_init (T : Tx K mg ad fd cL cT cN cB) : FnOk P w K mg base CX0 1 (ad 11) (fd 11) ["self", "name", "names"] (spLinit cL) := by
  refine T.F_Layer_init.ok sc_Layer_init (fun vs H Q E h => ?_) (fun cdv A outer s H vs Q E hr h => ?_)
  · obtain ⟨x, dx, nm, wl, rfl, _⟩ := h
    rfl
  obtain ⟨x, dx, nm, wl, rfl, hx, q⟩ := h
  refine ⟨_, (pss_cons (ps_fld (pv 0) (pv 1) rfl)
    (pss_cons (ps_fld (pv 0) (pv 2) rfl)
    (pss_cons (ps_fld (pv 0) pe_int rfl)
    (pss_cons (ps_fld (pv 0) pe_int rfl)
    (pss_one (ps_fld (pv 0) pe_int rfl)))))), ?_⟩
  refine sq_fld (val_var rfl) (val_var rfl) hx T.clsL T.na_name (by simp) pi_1 ?_
  refine sq_fld (val_var rfl) (val_var rfl) upd_same T.clsL T.na_words (by simp [lf1]) pi_2 ?_
  refine sq_fld val_c (val_var rfl) upd_same T.clsL T.na_named (by simp [lf2]) pi_3 ?_
  refine sq_fld val_c (val_var rfl) upd_same T.clsL T.na_posted (by simp [lf3]) pi_4 ?_
  refine en_fld val_c (val_var rfl) upd_same T.clsL T.na_many (by simp [lf4]) pi_5 ?_
  rw [upd_upd, upd_upd, upd_upd, upd_upd]
  exact q
end
end Wn
end
section
set_option Elab.async false
set_option linter.all false
set_option maxRecDepth 100000
set_option maxHeartbeats 4000000
namespace Wn
open PySem PySem.Spec PyProof.Rows L2
section
variable {P : Program} {w : World} {K : PySem.W.Frag} {mg : Str → Option Value} {base : Heap} {ad : Nat → Addr} {fd : Nat → FuncData} {cL cT cN cB : Addr}
theorem ok_Layer_new_hand (T : Tx K mg ad fd cL cT cN cB) : FnOk P w K mg base CX0 2 (ad 13) (fd 13) ["self"] (spNewHand cL) := by
  have G_word_of := ok_word_of (P := P) (w := w) (base := base) T
  refine T.F_Layer_new_hand.ok sc_Layer_new_hand (fun vs H Q E h => ?_) (fun cdv A outer s H vs Q E hr h => ?_)
  · obtain ⟨x, dx, nm, wl, k, p, m, rfl, _⟩ := h
    rfl
  obtain ⟨x, dx, nm, wl, k, p, m, rfl, hx, hp, q⟩ := h
  refine ⟨_, (pss_cons (ps_fld (pv 0) (pe_op op_add (pe_fld (pv 0) rfl) pe_int) rfl)
    (pss_one (ps_ret (pe_call G_word_of (hr.mono (by first | decide | omega)) (by rfl) T.m_word_of T.F_word_of.kp (b_word_of T) .nil pass0 (pa_cons (pe_op op_sub (pe_fld (pv 0) rfl) pe_int) pa_nil))))), ?_⟩
  refine sq_fld (v_I0 (v_fld (val_var rfl) hx T.clsL T.na_posted lf_posted) val_c) (val_var rfl) hx T.clsL T.na_posted (by simp [lfs]) (pf_posted (i := p + 1)) ?_
  refine c_ret (c_call (va_cons (v_I0 (v_fld (val_var rfl) upd_same T.clsL T.na_posted lf_posted) val_c) va_nil) ⟨p, ?_, by omega, q⟩)
  show [V.int (((p + 1 : Nat) : Int) - 1)] = _
  have e : ((p + 1 : Nat) : Int) - 1 = (p : Int) := by omega
  rw [e]
theorem ok_Layer_new_word (T : Tx K mg ad fd cL cT cN cB) : FnOk P w K mg base CX0 2 (ad 12) (fd 12) ["self"] (spNewWord K cL) := by
  have G_word_of := ok_word_of (P := P) (w := w) (base := base) T
  refine T.F_Layer_new_word.ok sc_Layer_new_word (fun vs H Q E h => ?_) (fun cdv A outer s H vs Q E hr h => ?_)
  · obtain ⟨x, dx, nm, wl, k, p, m, used, rfl, _⟩ := h
    rfl
  obtain ⟨x, dx, nm, wl, k, p, m, used, rfl, hx, hw, hu, hk, q⟩ := h
  refine ⟨_, (pss_cons (ps_while PassesOwn.never (pt_cmpR op_in_seq (pe_call G_word_of (hr.mono (by first | decide | omega)) (by rfl) T.m_word_of T.F_word_of.kp (b_word_of T) .nil pass0 (pa_cons (pe_fld (pv 0) rfl) pa_nil)) (pe_fld (pv 0) rfl) (by rfl))
    (pss_one (ps_fld (pv 0) (pe_op op_add (pe_fld (pv 0) rfl) pe_int) rfl)))
    (pss_cons (ps_fld (pv 0) (pe_op op_add (pe_fld (pv 0) rfl) pe_int) rfl)
    (pss_one (ps_ret (pe_call G_word_of (hr.mono (by first | decide | omega)) (by rfl) T.m_word_of T.F_word_of.kp (b_word_of T) .nil pass0 (pa_cons (pe_op op_sub (pe_fld (pv 0) rfl) pe_int) pa_nil)))))), ?_⟩
  refine st_seq ?_
  refine ⟨fun n σ H' => ∃ kc : Nat, σ = [some (.ref x)] ∧ H' = upd H x (.ins cL dx (lfs nm wl kc p m)) ∧ k ≤ kc ∧ kc + n = k + used.length ∧ ∀ i, k ≤ i → i < kc → wordOf i ∈ used, ⟨used.length, k, rfl, (upd_eq hx).symm, Nat.le_refl _, rfl, fun i h1 h2 => by omega⟩, ?_⟩
  rintro n σ H' ⟨kc, rfl, rfl, h1, h2, h3⟩
  have wls : SqL K (upd H x (.ins cL dx (lfs nm wl kc p m))) wl (used.map .str) := sql_ins hx hw
  refine c_opL (c_call (va_cons (v_fld (val_var rfl) upd_same T.clsL T.na_named lf_named) va_nil) ⟨kc, rfl, by omega, ?_⟩)
  refine c_val (v_fld (val_var rfl) upd_same T.clsL T.na_words lf_words) ⟨wl, _, rfl, .inl wls, rfl, flat_strs, _, rfl, ?_⟩
  rw [inV_strs]
  by_cases hin : wordOf kc ∈ used
  · rw [decide_eq_true hin]
    refine iteT ?_
    have pg := pigeon wordOf_inj (kc + 1 - k) k used fun i a b => by
      by_cases e : i = kc
      · rw [e]; exact hin
      · exact h3 i a (by omega)
    refine ⟨_, fun _ _ n => n, ?_⟩
    refine en_fld (v_I0 (v_fld (val_var rfl) upd_same T.clsL T.na_named lf_named) val_c) (val_var rfl) upd_same T.clsL T.na_named (by simp [lfs]) (pf_named (i := kc + 1)) ?_
    refine ⟨n - 1, by omega, kc + 1, rfl, upd_upd, by omega, by omega, fun i a b => ?_⟩
    by_cases e : i = kc
    · rw [e]; exact hin
    · exact h3 i a (by omega)
  · rw [decide_eq_false hin]
    refine iteF ?_
    refine sq_fld (v_I0 (v_fld (val_var rfl) upd_same T.clsL T.na_named lf_named) val_c) (val_var rfl) upd_same T.clsL T.na_named (by simp [lfs]) (pf_named (i := kc + 1)) ?_
    rw [upd_upd]
    refine c_ret (c_call (va_cons (v_I0 (v_fld (val_var rfl) upd_same T.clsL T.na_named lf_named) val_c) va_nil) ⟨kc, ?_, by omega, q kc h1 (by omega) hin⟩)
    show [V.int (((kc + 1 : Nat) : Int) - 1)] = _
    have e : ((kc + 1 : Nat) : Int) - 1 = (kc : Int) := by omega
    rw [e]
theorem ok_Layer_count_part (T : Tx K mg ad fd cL cT cN cB) (d : Nat) : FnOk P w K mg base (L2.CX P w) (d + 3) (ad 14) (fd 14) ["self", "some"] (spCount K cL cT d) := by
  have G_places_in := ok_places_in (P := P) (w := w) (base := base) T d
  have G_TooGreat_init := ok_TooGreat_init (P := P) (w := w) (base := base) T
  refine T.F_Layer_count_part.okX sc_Layer_count_part (fun vs H Q E h => ?_) (fun cdv A outer s H vs Q E hr h => ?_)
  · obtain ⟨x, dx, nm, wl, k, p, m, sm, ys, ss, rfl, _⟩ := h
    rfl
  obtain ⟨x, dx, nm, wl, k, p, m, sm, ys, ss, rfl, hx, hS, hy, hl, hd, ht, q1, q2⟩ := h
  obtain ⟨tM, c_MOST_LAID⟩ := T.c_MOST_LAID
  refine ⟨_, (pss_cons (ps_fld (pv 0) (pe_op op_add (pe_op op_add (pe_fld (pv 0) rfl) pe_int) (pe_callB (id := "sum") (cr_sum rfl) (by rfl) T.z_sum (by decide +kernel) (pa_cons (pe_lc (own := [("one", 2)]) (by rfl) sc_Layer_count_part.nd (pi_tup (pv 1)) (blkOk_by (own := [("one", 2)]) (N := ["self", "some", "one"]) (sc := defScope s_Layer_count_part) (by decide +kernel)) (fun _ _ _ _ _ => (pg_name (i := 2) sc_Layer_count_part.nd rfl (Or.inl rfl))) (fun _ _ _ _ _ => pts_nil) (fun _ _ _ _ _ => (pe_callB (id := "len") (call_len_q (K := K) rfl) (by rfl) T.z_len (by decide +kernel) (pa_cons (pe_call G_places_in (hr.mono (by first | decide | omega)) (by rfl) T.m_places_in T.F_places_in.kp (b_places_in T) .nil pass0 (pa_cons (pv 2) (pa_cons (pe_tup pa_nil) pa_nil))) pa_nil)))) pa_nil))) rfl)
    (pss_one (ps_if (pt_cmpR op_gt (pe_fld (pv 0) rfl) (pe_glob (v := .int 200) rfl c_MOST_LAID ⟨_, rfl⟩) (nomark _)) (pss_one (ps_raise (by rfl) (takes_of rfl rfl rfl rfl) (pmk_oex (x := "TooGreat") T.oT T.iT T.tT G_TooGreat_init (hr.mono (by first | decide | omega)) (b_TooGreat_init T) .nil pass0 (by rfl) T.m_TooGreat (pa_cons (pe_fld (pv 0) rfl) pa_nil)))) pss_nil))), ?_⟩
  have lys : ys.length = ss.length := by rw [dpa_length hy, List.length_map]
  refine sq_fldC ?_
  refine c_opL (c_val (v_I0 (v_fld (val_var rfl) hx T.clsL T.na_many lf_many) val_c) (c_cbL (c_cons ?_)))
  refine ⟨_, rfl, sm, rfl, ⟨_, hS⟩, fun Dl hD => ?_⟩
  refine lc_mapT hD hS (ss.map fun s => .int (tsz s : Int)) (by rw [List.length_map, lys]) ?_ (by omega) (fun i x' d' H' R hxi hdi e3 r => ?_) (fun H3 acc e3 hD3 hacc => ?_) (fun x σ H P R m h => m _ _ h)
  · have key : ∀ l : List Tms, noLs (l.map fun s => PyData.int (tsz s : Int)) := by
      intro l
      induction l with
      | nil => trivial
      | cons a l ih => exact ⟨by simp [noL], ih⟩
    exact key ss
  · have hi : i < ss.length := by
      rw [← lys]
      exact (List.getElem?_eq_some_iff.mp hxi).1
    have hsi : ss[i]? = some ss[i] := List.getElem?_eq_getElem hi
    rw [List.getElem?_map, hsi] at hdi
    cases hdi
    obtain ⟨x2, z1, z2⟩ := dpa_get hy (d := encT ss[i]) (i := i) (by rw [List.getElem?_map, hsi]; rfl)
    rw [hxi] at z1
    cases z1
    refine ⟨rfl, c_cbL (c_cons (c_callL (c_cons (c_val (val_var rfl) (c_cons (c_tupV va_nil (by simp) fun pl hpl => c_nil ?_))))))⟩
    have e4 := same_new (o := .tup []) hpl
    refine ⟨x', ss[i], pl, [], rfl, dp_mono (e3.trans e4) z2, SqT.of upd_same, by simp; omega, hd, ht _ (List.getElem_mem hi), fun p' H4 zs e5 h5 l5 => ?_⟩
    refine c_nil ⟨p', zs, rfl, .inl (SqL.of h5), ?_⟩
    rw [l5]
    exact r _ _ (e4.trans e5) (.int _)
  · have hacc' : acc = (ss.map fun s => (tsz s : Int)).map V.int := by
      have key : ∀ (l : List Tms) (acc : List V), DpAll K H3 acc (l.map fun s => PyData.int (tsz s : Int)) → acc = (l.map fun s => (tsz s : Int)).map V.int := by
        intro l
        induction l with
        | nil => intro acc h; exact dpa_nil h
        | cons a l ih =>
          intro acc h
          obtain ⟨x, r, rfl, h1, h2⟩ := dpa_cons h
          rw [dp_int h1, ih r h2]
          rfl
      exact key ss acc hacc
    have sm' : (ss.map fun s => (tsz s : Int)).sum = (tszs ss : Int) := by
      have key : ∀ l : List Tms, (l.map fun s => (tsz s : Int)).sum = (tszs l : Int) := by
        intro l
        induction l with
        | nil => rfl
        | cons a l ih => simp only [List.map_cons, List.sum_cons, ih, tszs]; omega
      exact key ss
    refine c_nil ⟨Dl, _, rfl, SqL.of (by rw [hD3, hacc']), ⟨_, _, rfl, rfl, ?_⟩⟩
    rw [sm']
    have ev : (m : Int) + 1 + (tszs ss : Int) = ((m + (1 + tszs ss) : Nat) : Int) := by omega
    have hx3 := e3 _ _ hx
    refine c_val (val_var rfl) ⟨x, cL, dx, _, rfl, hx3, T.clsL, T.na_many, by simp [lfs], ?_⟩
    have eP : putF ("many" : Str) (V.int ((m : Int) + 1 + (tszs ss : Int))) (lfs nm wl k p m) = lfs nm wl k p (m + (1 + tszs ss)) := by rw [ev, pf_many]
    show tIfS _ _ _ _ _ (upd H3 x (HO.ins cL dx (putF ("many" : Str) (V.int ((m : Int) + 1 + (tszs ss : Int))) (lfs nm wl k p m))))
    rw [eP]
    by_cases hb : 200 < m + (1 + tszs ss)
    · refine st_yes (a_I0 (b := true) (v_fld (val_var rfl) upd_same T.clsL T.na_many lf_many) val_c (by show V.bl (decide ((200 : Int) < ((m + (1 + tszs ss) : Nat) : Int))) = _; rw [decide_eq_true (by omega)])) ?_
      refine c_cons (c_val (v_fld (val_var rfl) upd_same T.clsL T.na_name lf_name) (c_nil ⟨by simp, fun a ha => ?_⟩))
      refine ⟨a, nm, rfl, upd_same, fun dx2 hdx2 ne => ⟨rfl, dx2, _, upd_same, by rw [upd_ne ne, upd_same], ?_, q2 hb _ _⟩⟩
      rw [upd_ne ne] at hdx2
      exact hdx2
    · refine st_no (a_I0 (b := false) (v_fld (val_var rfl) upd_same T.clsL T.na_many lf_many) val_c (by show V.bl (decide ((200 : Int) < ((m + (1 + tszs ss) : Nat) : Int))) = _; rw [decide_eq_false (by omega)])) ?_
      exact q1 (by omega) H3 e3
end
end Wn
end
section
set_option Elab.async false
set_option linter.all false
set_option maxRecDepth 100000
set_option maxHeartbeats 4000000
namespace Wn
open PySem PySem.Spec PyProof.Rows L2
section
variable {K : PySem.W.Frag} {σ : L2.St} {H H' : Hp} {te ta tb td ty tv : TE} {tr : TA} {D : Ends} {t2 : TS} {Q : VK} {E : XK} {v : V} {a d x : Addr} {xs : List V} {n : Nat} {f g : Str → Option V} {k : Str}
theorem DK.ext (h : DK H d n f) (e : ∀ y, f y = g y) : DK H d n g :=
  let ⟨kvs, a, b, c⟩ := h
  ⟨kvs, a, b, fun y => (c y).trans (e y)⟩
theorem DK.but {C dx : Addr} {fs : List (Str × V)} (e : But (fun b => b = x) H H') (hx : H x = some (.ins C dx fs)) (h : DK H d n f) : DK H' d n f := by
  obtain ⟨kvs, a, b, c⟩ := h
  exact ⟨kvs, e _ _ (fun z => by rw [z, hx] at a; cases a) a, b, c⟩
theorem fset_map {A : Type} {B : Type} {h : A → B} {ws : Str → Option A} {x : Str} {w : A} (y : Str) : fset (fun y => (ws y).map h) x (h w) y = (fset ws x w y).map h := by
  by_cases e : y = x
  · rw [e, fset_same, fset_same]; rfl
  · rw [fset_ne e, fset_ne e]
theorem sq_tup {gs : TGs} (ha : Val te σ H (.ref a)) (hS : SqT K H a xs) (hl : xs.length = n) (q : gs xs σ H (t2 D)) : tSeq (tAsg te (gTup K n gs)) t2 D σ H := ha _ ⟨a, xs, rfl, hS, hl, q⟩
theorem c_dictOf (ha : Val te σ H (.ref d)) (h : DK H d n f) (q : ∀ p kvs, H p = none → DK (upd H p (.dK kvs)) p n f → Q (.ref p) (upd H p (.dK kvs))) :
    tCB (fun xs H Q => ∃ (a : Addr) (kvs : List (Key × V)), xs = [.ref a] ∧ Rd H a (.dK kvs) ∧ ∀ p, H p = none → Q (.ref p) (upd H p (.dK kvs))) (tCons te tNil) σ H Q := by
  obtain ⟨kvs, h1, h2, h3⟩ := h
  exact ha _ ⟨d, kvs, rfl, .inl h1, fun p hp => q p kvs hp ⟨kvs, upd_same, h2, h3⟩⟩
theorem sq_dput (hv : Val tv σ H v) (hd : Val td σ H (.ref d)) (hk : Val ty σ H (.str k)) (h : DK H d n f) (l : n < 100000) (q : ∀ kvs, DK (upd H d (.dK kvs)) d (n + 1) (fset f k v) → t2 D σ (upd H d (.dK kvs))) : tSeq (sDPut td ty tv) t2 D σ H := by
  obtain ⟨kvs, h1, h2⟩ := h.put (x := k) (v := v) l
  exact hv _ (hd _ (hk _ ⟨d, _, rfl, h1, q kvs h2⟩))
theorem sq_dputC (h : tv σ H fun v H1 => td σ H1 fun x H2 => ty σ H2 fun y H3 => ∃ a H4, x = .ref a ∧ DPut H3 a y v H4 ∧ t2 D σ H4) : tSeq (sDPut td ty tv) t2 D σ H := h
theorem r_dput {R : Hp → Prop} (h : DK H d n f) (l : n < 100000) (q : ∀ kvs, DK (upd H d (.dK kvs)) d (n + 1) (fset f k v) → R (upd H d (.dK kvs))) : ∃ a H4, V.ref d = .ref a ∧ DPut H a (.str k) v H4 ∧ R H4 := by
  obtain ⟨kvs, h1, h2⟩ := h.put (x := k) (v := v) l
  exact ⟨d, _, rfl, h1, q kvs h2⟩
theorem c_meth {C dx : Addr} {fs : List (Str × V)} {m : Str} {sp : Sp} {dvs : List V} (ha : Val ta σ H (.ref a)) (ho : H a = some (.ins C dx fs)) (hl : fs.lookup m = none) (h : tr σ H fun vs H1 => sp (.ref a :: (vs ++ dvs)) H1 Q E) : tMeth C m sp dvs E ta tr σ H Q :=
  ha _ ⟨a, dx, fs, rfl, ho, hl, h⟩
theorem sq_dropC' (h : te σ H fun _ H1 => t2 D σ H1) : tSeq (tDrop te) t2 D σ H := h
theorem lf_none {nm : Str} {wl : Addr} {k p m : Nat} {x : Str} (h : (x == "name") = false ∧ (x == "words") = false ∧ (x == "named") = false ∧ (x == "posted") = false ∧ (x == "many") = false) : (lfs nm wl k p m).lookup x = none := by
  simp [lfs, List.lookup, h.1, h.2.1, h.2.2.1, h.2.2.2.1, h.2.2.2.2]
theorem sql_but {xs : List V} {C dx : Addr} {fs : List (Str × V)} (e : But (fun b => b = x) H H') (hx : H x = some (.ins C dx fs)) (q : SqL K H a xs) : SqL K H' a xs := by
  rcases q with (q | ⟨ob, q⟩) | q
  · exact .inl (.inl (e _ _ (ne_of q hx (by intro z; cases z)) q))
  · exact .inl (.inr ⟨ob, e _ _ (ne_of q hx (by intro z; cases z)) q⟩)
  · exact .inr q
end
/-- hand-ons in the heap: each its post's word, its turned part, the words and the hand-ons around it -/
def HF (K : PySem.W.Frag) (b : Nat) (H : Hp) : HEnv Str → (Str → Option V) → Prop
  | [], h => ∀ k, h k = if k = "home" then some .non else none
  | (j, c) :: he, h => ∃ (cl : Addr) (vT : V) (dw dh : Addr) (h' : Str → Option V), (∀ k, h k = if k = j then some (.ref cl) else h' k) ∧ SqT K H cl [.str c.x, vT, .ref dw, .ref dh] ∧ Dp K H vT (encP c.T) ∧
    DK H dw b (fun y => (c.ws y).map V.str) ∧ DK H dh b h' ∧ (∀ y ∈ c.xs, ∃ w, c.ws y = some w) ∧ HF K b H he h'
def FClo (K : PySem.W.Frag) (b : Nat) (H : Hp) (c : Clo Str) (he : HEnv Str) (cl : Addr) : Prop := ∃ (vT : V) (dw dh : Addr) (h' : Str → Option V), SqT K H cl [.str c.x, vT, .ref dw, .ref dh] ∧ Dp K H vT (encP c.T) ∧
    DK H dw b (fun y => (c.ws y).map V.str) ∧ DK H dh b h' ∧ (∀ y ∈ c.xs, ∃ w, c.ws y = some w) ∧ HF K b H he h'
section
variable {K : PySem.W.Frag} {b : Nat} {H H' : Hp} {x : Addr}
theorem hf_none : ∀ {he : HEnv Str} {h : Str → Option V} {k : Str}, HF K b H he h → hfind he k = none → h k = if k = "home" then some .non else none
  | [], h, k, q, _ => q k
  | (j, c) :: he, h, k, ⟨cl, vT, dw, dh, h', e, _, _, _, _, _, q⟩, z => by
    by_cases ek : k = j
    · have z' : some (c, he) = none := (if_pos ek).symm.trans z
      cases z'
    · rw [e, if_neg ek]
      exact hf_none q ((if_neg ek).symm.trans z)
theorem hf_some : ∀ {he : HEnv Str} {h : Str → Option V} {k : Str} {c : Clo Str} {he' : HEnv Str}, HF K b H he h → hfind he k = some (c, he') → ∃ cl, h k = some (.ref cl) ∧ FClo K b H c he' cl
  | [], h, k, c, he', q, z => by cases z
  | (j, c0) :: he, h, k, c, he', ⟨cl, vT, dw, dh, h', e, q1, q2, q3, q4, q5, q⟩, z => by
    by_cases ek : k = j
    · have z' : some (c0, he) = some (c, he') := (if_pos ek).symm.trans z
      cases z'
      exact ⟨cl, by rw [e, if_pos ek], vT, dw, dh, h', q1, q2, q3, q4, q5, q⟩
    · obtain ⟨cl2, a1, a2⟩ := hf_some q ((if_neg ek).symm.trans z)
      exact ⟨cl2, by rw [e, if_neg ek]; exact a1, a2⟩
theorem HF.same (e : Same H H') : ∀ {he : HEnv Str} {h : Str → Option V}, HF K b H he h → HF K b H' he h
  | [], h, q => q
  | (j, c) :: he, h, ⟨cl, vT, dw, dh, h', e1, q1, q2, q3, q4, q5, q⟩ => ⟨cl, vT, dw, dh, h', e1, same_tup e q1, dp_mono e q2, q3.mono e, q4.mono e, q5, q.same e⟩
theorem HF.up {b' : Nat} (l : b ≤ b') : ∀ {he : HEnv Str} {h : Str → Option V}, HF K b H he h → HF K b' H he h
  | [], h, q => q
  | (j, c) :: he, h, ⟨cl, vT, dw, dh, h', e1, q1, q2, q3, q4, q5, q⟩ => ⟨cl, vT, dw, dh, h', e1, q1, q2, q3.up l, q4.up l, q5, q.up l⟩
theorem HF.but {C dx : Addr} {fs : List (Str × V)} (e : But (fun b => b = x) H H') (hx : H x = some (.ins C dx fs)) : ∀ {he : HEnv Str} {h : Str → Option V}, HF K b H he h → HF K b H' he h
  | [], h, q => q
  | (j, c) :: he, h, ⟨cl, vT, dw, dh, h', e1, q1, q2, q3, q4, q5, q⟩ => ⟨cl, vT, dw, dh, h', e1, but_tup e (mutS1 (mut_ins hx)) q1, but_dp e (mutS1 (mut_ins hx)) (noL_P _) q2, q3.but e hx, q4.but e hx, q5, q.but e hx⟩
theorem FClo.same {c : Clo Str} {he : HEnv Str} {cl : Addr} (e : Same H H') (h : FClo K b H c he cl) : FClo K b H' c he cl :=
  let ⟨vT, dw, dh, h', q1, q2, q3, q4, q5, q⟩ := h
  ⟨vT, dw, dh, h', same_tup e q1, dp_mono e q2, q3.mono e, q4.mono e, q5, q.same e⟩
theorem FClo.but {c : Clo Str} {he : HEnv Str} {cl : Addr} {C dx : Addr} {fs : List (Str × V)} (e : But (fun b => b = x) H H') (hx : H x = some (.ins C dx fs)) (h : FClo K b H c he cl) : FClo K b H' c he cl :=
  let ⟨vT, dw, dh, h', q1, q2, q3, q4, q5, q⟩ := h
  ⟨vT, dw, dh, h', but_tup e (mutS1 (mut_ins hx)) q1, but_dp e (mutS1 (mut_ins hx)) (noL_P _) q2, q3.but e hx, q4.but e hx, q5, q.but e hx⟩
end
/-- the layer at x may go on: k words, p hand-ons, m parts so far -/
structure LAt (K : PySem.W.Frag) (cL x dx : Addr) (nm : Str) (wl : Addr) (used : List Str) (k p m : Nat) (H : Hp) : Prop where
  at_ : H x = some (.ins cL dx (lfs nm wl k p m))
  ws : SqL K H wl (used.map .str)
  few : used.length ≤ 4
  hk : k ≤ 5 * m
  hp : p ≤ m
  hm : m ≤ 200
/-- what laying P does -/
def LRes (K : PySem.W.Frag) (cL cT x dx : Addr) (nm : Str) (wl : Addr) (used : List Str) (k p m s : Nat) (P : Pts) (xs : List Str) (ws : Str → Option Str) (he : HEnv Str) (H : Hp) (Q : VK) (E : XK) : Prop :=
  (m + s ≤ 200 → ∀ v' H' L k' p', But (fun b => b = x) H H' → LAt K cL x dx nm wl used k' p' (m + s) H' → LayR ("home" : Str) wordOf used P xs ws he k p L k' p' → Dp K H' v' (encP L) → Q v' H') ∧ (200 < m + s → ∀ dd H', E (.ref cT) dd H')
def spLay (K : PySem.W.Frag) (cL cT : Addr) (n : Nat) : Sp := fun vs H Q E => ∃ (x dx : Addr) (nm : Str) (wl : Addr) (used : List Str) (k p m : Nat) (P : Pts) (xs : List Str) (ws : Str → Option Str) (he : HEnv Str) (v : V) (dw dh : Addr) (h : Str → Option V) (b : Nat),
  vs = [.ref x, v, .ref dw, .ref dh] ∧ LAt K cL x dx nm wl used k p m H ∧ Dp K H v (encP P) ∧ DK H dw b (fun y => (ws y).map V.str) ∧ DK H dh b h ∧ HF K b H he h ∧ (∀ y ∈ xs, ∃ w, ws y = some w) ∧ LOK ("home" : Str) 2 n P xs he ∧ b + n ≤ 1000 ∧
  LRes K cL cT x dx nm wl used k p m (sz n P (strip he)) P xs ws he H Q E
def spLayOn (K : PySem.W.Frag) (cL cT : Addr) (n : Nat) : Sp := fun vs H Q E => ∃ (x dx : Addr) (nm : Str) (wl : Addr) (used : List Str) (k p m : Nat) (c : Clo Str) (he : HEnv Str) (cl : Addr) (w : Str) (b : Nat),
  vs = [.ref x, .ref cl, .str w] ∧ LAt K cL x dx nm wl used k p m H ∧ FClo K b H c he cl ∧ LOK ("home" : Str) 2 n c.T (c.x :: c.xs) he ∧ b + 1 + n ≤ 1000 ∧
  LRes K cL cT x dx nm wl used k p m (sz n c.T (strip he)) c.T (c.x :: c.xs) (fset c.ws c.x w) he H Q E
section
variable {P : Program} {w : World} {K : PySem.W.Frag} {mg : Str → Option Value} {base : Heap} {ad : Nat → Addr} {fd : Nat → FuncData} {cL cT cN cB : Addr}
theorem ok_lay_on (T : Tx K mg ad fd cL cT cN cB) (n : Nat) (G_Layer_lay : FnOk P w K mg base (L2.CX P w) (3 * n + 10) (ad 15) (fd 15) ["self", "part", "words", "hands"] (spLay K cL cT n)) : FnOk P w K mg base (L2.CX P w) (3 * n + 11) (ad 18) (fd 18) ["self", "hand", "word"] (spLayOn K cL cT n) := by
  refine T.F_Layer_lay_on.okX sc_Layer_lay_on (fun vs H Q E h => ?_) (fun cdv A outer s H vs Q E hr h => ?_)
  · obtain ⟨x, dx, nm, wl, used, k, p, m, c, he, cl, w, b, rfl, _⟩ := h
    rfl
  obtain ⟨x, dx, nm, wl, used, k, p, m, c, he, cl, w, b, rfl, hA, ⟨vT, dw, dh, h', q1, q2, q3, q4, q5, q6⟩, hL, hb, hR⟩ := h
  refine ⟨_, (pss_cons (ps_asg (pv 1) (pg_tup (by rfl) (pgs_cons (pg_name (i := 3) sc_Layer_lay_on.nd rfl (Or.inl rfl)) (pgs_cons (pg_name (i := 4) sc_Layer_lay_on.nd rfl (Or.inl rfl)) (pgs_cons (pg_name (i := 5) sc_Layer_lay_on.nd rfl (Or.inl rfl)) (pgs_cons (pg_name (i := 6) sc_Layer_lay_on.nd rfl (Or.inl rfl)) pgs_nil))))))
    (pss_cons (ps_set (i := 7) sc_Layer_lay_on.nd rfl (Or.inl rfl) (pe_callTy (T := "dict") call_dictOf (by rfl) T.z_dict (by decide +kernel) (pa_cons (pv 5) pa_nil)))
    (pss_cons (ps_dput (hu_of hr) (pv 7) (pv 3) (pv 2) rfl)
    (pss_one (ps_ret (pe_meth (pv 0) T.clsL T.me_lay G_Layer_lay (hr.mono (by first | decide | omega)) (b_Layer_lay T) .nil (passes_call (takes_of rfl rfl rfl rfl) (fun _ _ _ _ h => h)) (pa_cons (pv 4) (pa_cons (pv 7) (pa_cons (pv 6) pa_nil))))))))), ?_⟩
  refine sq_tup (val_var rfl) q1 rfl ⟨_, _, rfl, _, _, rfl, _, _, rfl, _, _, rfl, rfl, ?_⟩
  refine sq_setC (c_dictOf (val_var rfl) q3 fun pd kvs hpd hdk => ?_)
  refine sq_dput (val_var rfl) (val_var rfl) (val_var rfl) hdk (by omega) fun kvs2 hdk2 => ?_
  rw [upd_upd] at hdk2 ⊢
  have e1 : Same H (upd H pd (.dK kvs2)) := same_new hpd
  refine c_ret (c_meth (val_var rfl) (e1 _ _ hA.at_) (lf_none (by decide +kernel)) (c_cons (c_val (val_var rfl) (c_cons (c_val (val_var rfl) (c_cons (c_val (val_var rfl) (c_nil ?_))))))))
  refine ⟨x, dx, nm, wl, used, k, p, m, c.T, c.x :: c.xs, fset c.ws c.x w, he, vT, pd, dh, h', b + 1, rfl, ⟨e1 _ _ hA.at_, e1.seq hA.ws, hA.few, hA.hk, hA.hp, hA.hm⟩, dp_mono e1 q2, hdk2.ext fun y => fset_map y, (q4.mono e1).up (by omega), (q6.same e1).up (by omega), fun y hy => ?_, hL, by omega, ?_⟩
  · by_cases e : y = c.x
    · exact ⟨w, by rw [e]; exact fset_same⟩
    · rw [fset_ne e]
      exact q5 y ((List.mem_cons.mp hy).resolve_left e)
  · exact ⟨fun l v' H' L k' p' e2 hA' hl hd => hR.1 l v' H' L k' p' ((But.of e1).trans e2) hA' hl hd, hR.2⟩
end
end Wn
end
section
set_option Elab.async false
set_option linter.all false
set_option maxRecDepth 100000
set_option maxHeartbeats 4000000
namespace Wn
open PySem PySem.Spec PyProof.Rows L2
theorem lat_but {K : PySem.W.Frag} {cL x dx : Addr} {nm : Str} {wl : Addr} {used : List Str} {k p m k' p' m' : Nat} {H H' : Hp} (h : LAt K cL x dx nm wl used k p m H) (e : But (fun b => b = x) H H') (hx : H' x = some (.ins cL dx (lfs nm wl k' p' m'))) (l1 : k' ≤ 5 * m') (l2 : p' ≤ m') (l3 : m' ≤ 200) :
    LAt K cL x dx nm wl used k' p' m' H' := ⟨hx, sql_but e h.at_ h.ws, h.few, l1, l2, l3⟩
theorem noLs_Ts : ∀ ss : List Tms, noLs (ss.map encT)
  | [] => trivial
  | s :: r => ⟨noL_T s, noLs_Ts r⟩
/-- a hand in the heap: home's none, or a closure -/
def FHand (K : PySem.W.Frag) (b n : Nat) (H : Hp) (j : Str) (he : HEnv Str) (v : V) : Prop :=
  (hfind he j = none ∧ j = "home" ∧ v = .non) ∨ ∃ c he' cl, hfind he j = some (c, he') ∧ v = .ref cl ∧ FClo K b H c he' cl ∧ LOK ("home" : Str) 2 n c.T (c.x :: c.xs) he'
theorem FHand.same {K : PySem.W.Frag} {b n : Nat} {H H' : Hp} {j : Str} {he : HEnv Str} {v : V} (e : Same H H') (h : FHand K b n H j he v) : FHand K b n H' j he v := by
  rcases h with h | ⟨c, he', cl, h1, h2, h3, h4⟩
  · exact .inl h
  · exact .inr ⟨c, he', cl, h1, h2, h3.same e, h4⟩
theorem FHand.but {K : PySem.W.Frag} {b n : Nat} {H H' : Hp} {j : Str} {he : HEnv Str} {v : V} {x C dx : Addr} {fs : List (Str × V)} (e : But (fun b => b = x) H H') (hx : H x = some (.ins C dx fs)) (h : FHand K b n H j he v) : FHand K b n H' j he v := by
  rcases h with h | ⟨c, he', cl, h1, h2, h3, h4⟩
  · exact .inl h
  · exact .inr ⟨c, he', cl, h1, h2, h3.but e hx, h4⟩
theorem fhand_of {K : PySem.W.Frag} {b n : Nat} {H : Hp} {j : Str} {he : HEnv Str} {h : Str → Option V} (q : HF K b H he h) (l1 : hfind he j = none → j = "home") (l2 : ∀ c he', hfind he j = some (c, he') → LOK ("home" : Str) 2 n c.T (c.x :: c.xs) he') : ∃ v, h j = some v ∧ FHand K b n H j he v := by
  cases e : hfind he j with
  | none =>
    refine ⟨.non, ?_, .inl ⟨e, l1 e, rfl⟩⟩
    rw [hf_none q e, if_pos (l1 e)]
  | some r =>
    obtain ⟨c, he'⟩ := r
    obtain ⟨cl, z1, z2⟩ := hf_some q e
    exact ⟨_, z1, .inr ⟨c, he', cl, e, rfl, z2, l2 c he' e⟩⟩
/-- what is left to count behind a hand-on -/
def hsz (n : Nat) (j : Str) (he : HEnv Str) : Nat := match sfind (strip he) j with
  | none => 0
  | some (T, se) => sz n T se
theorem hsz_none {n : Nat} {j : Str} {he : HEnv Str} (h : hfind he j = none) : hsz n j he = 0 := by
  unfold hsz
  rw [sfind_strip, h]; rfl
theorem hsz_some {n : Nat} {j : Str} {he he' : HEnv Str} {c : Clo Str} (h : hfind he j = some (c, he')) : hsz n j he = sz n c.T (strip he') := by
  unfold hsz
  rw [sfind_strip, h]; rfl
def spLayGive (K : PySem.W.Frag) (cL cT : Addr) (n : Nat) : Sp := fun vs H Q E => ∃ (x dx : Addr) (nm : Str) (wl : Addr) (used : List Str) (k p m : Nat) (t : Tms) (s : Tms) (j : Str) (xs : List Str) (ws : Str → Option Str) (he : HEnv Str) (vt vh : V) (b : Nat),
  vs = [.ref x, vt, vh] ∧ LAt K cL x dx nm wl used k p m H ∧ k + 5 ≤ 5 * m ∧ Dp K H vt (encT (ren ws s)) ∧ FHand K b n H j he vh ∧ b + 1 + n ≤ 1000 ∧
  LRes K cL cT x dx nm wl used k p m (hsz n j he) (.give j s) xs ws he H Q E
def spLayAsk (K : PySem.W.Frag) (cL cT : Addr) (n : Nat) : Sp := fun vs H Q E => ∃ (x dx : Addr) (nm : Str) (wl : Addr) (used : List Str) (k p m : Nat) (f : Str) (sm : Addr) (ys : List V) (ss : List Tms) (j : Str) (xs : List Str) (ws : Str → Option Str) (he : HEnv Str) (vh : V) (b : Nat),
  vs = [.ref x, .str f, .ref sm, vh] ∧ LAt K cL x dx nm wl used k p m H ∧ k + 5 ≤ 5 * m ∧ SqT K H sm ys ∧ DpAll K H ys ((ss.map (ren ws)).map encT) ∧ FHand K b n H j he vh ∧ b + 1 + n ≤ 1000 ∧
  LRes K cL cT x dx nm wl used k p m (match hfind he j with | none => 0 | some _ => 1 + hsz n j he) (.ask f ss j) xs ws he H Q E
section
variable {P : Program} {w : World} {K : PySem.W.Frag} {mg : Str → Option Value} {base : Heap} {ad : Nat → Addr} {fd : Nat → FuncData} {cL cT cN cB : Addr}
theorem ok_lay_give (T : Tx K mg ad fd cL cT cN cB) (n : Nat) (G_Layer_lay_on : FnOk P w K mg base (L2.CX P w) (3 * n + 11) (ad 18) (fd 18) ["self", "hand", "word"] (spLayOn K cL cT n)) : FnOk P w K mg base (L2.CX P w) (3 * n + 12) (ad 16) (fd 16) ["self", "term", "hand"] (spLayGive K cL cT n) := by
  have G_Layer_new_word := ok_Layer_new_word (P := P) (w := w) (base := base) T
  refine T.F_Layer_lay_give.okX sc_Layer_lay_give (fun vs H Q E h => ?_) (fun cdv A outer s H vs Q E hr h => ?_)
  · obtain ⟨x, dx, nm, wl, used, k, p, m, t, s, j, xs, ws, he, vt, vh, b, rfl, _⟩ := h
    rfl
  obtain ⟨x, dx, nm, wl, used, k, p, m, t, s, j, xs, ws, he, vt, vh, b, rfl, hA, hk5, ht, hh, hb, hR⟩ := h
  obtain ⟨tH, c_HOME⟩ := T.c_HOME
  have hm := hA.hm
  refine ⟨_, (pss_cons (ps_if (pt_cmpR op_isN (pv 2) pe_non (nomark _)) (pss_one (ps_ret (pe_tup (pa_cons pe_str (pa_cons (pe_glob (v := .str "home") rfl c_HOME ⟨_, rfl⟩) (pa_cons (pv 1) pa_nil)))))) pss_nil)
    (pss_cons (ps_set (i := 3) sc_Layer_lay_give.nd rfl (Or.inl rfl) (pe_meth0 (pv 0) T.clsL T.me_new_word G_Layer_new_word (hr.mono (by first | decide | omega)) (b_Layer_new_word T) .nil pass0))
    (pss_one (ps_ret (pe_tup (pa_cons pe_str (pa_cons (pv 3) (pa_cons (pv 1) (pa_cons (pe_meth (pv 0) T.clsL T.me_lay_on G_Layer_lay_on (hr.mono (by first | decide | omega)) (b_Layer_lay_on T) .nil (passes_call (takes_of rfl rfl rfl rfl) (fun _ _ _ _ h => h)) (pa_cons (pv 2) (pa_cons (pv 3) pa_nil))) pa_nil))))))))), ?_⟩
  rcases hh with ⟨hn, rfl, rfl⟩ | ⟨c, he', cl, hf, rfl, hc, hL⟩
  · refine sq_yes (a_isN (val_var rfl) (by decide +kernel)) ?_
    refine c_ret (c_tupV (va_cons val_c (va_cons val_c (va_cons (val_var rfl) va_nil))) (by simp) fun q hq => ?_)
    have e1 := same_new (o := .tup [.str "give", .str "home", vt]) hq
    have z := hR.1 (by rw [hsz_none hn]; omega) (.ref q) _ (.give "home" (ren ws s)) k p (But.of e1)
    rw [hsz_none hn] at z
    exact z (lat_but hA (But.of e1) (e1 _ _ hA.at_) hA.hk hA.hp hA.hm) (.give0 hn) (.tup (SqT.of upd_same) (.cons (.str _) (.cons (.str _) (.cons (dp_mono e1 ht) .nil))))
  · rw [hsz_some hf] at hR
    refine sq_no (a_isN (val_var rfl) (decide_eq_false (by intro z; cases z))) ?_
    refine sq_setC (c_meth (val_var rfl) hA.at_ (lf_none (by decide +kernel)) (c_nil ?_))
    refine ⟨x, dx, nm, wl, k, p, m, used, rfl, hA.at_, hA.ws, hA.few, by omega, fun i h1 h2 hi => ?_⟩
    have b1 : But (fun b => b = x) H (upd H x (.ins cL dx (lfs nm wl (i + 1) p m))) := But.mut rfl
    have hA1 := lat_but hA b1 upd_same (k' := i + 1) (p' := p) (m' := m) (by omega) hA.hp hA.hm
    refine c_ret (c_tup' (c_cons (c_val val_c (c_cons (c_val (val_var rfl) (c_cons (c_val (val_var rfl) (c_cons (c_meth (val_var rfl) upd_same (lf_none (by decide +kernel)) (c_cons (c_val (val_var rfl) (c_cons (c_val (val_var rfl) (c_nil ?_))))))))))))))
    refine ⟨x, dx, nm, wl, used, i + 1, p, m, c, he', cl, wordOf i, b, rfl, hA1, hc.but b1 hA.at_, hL, hb, fun l v' H' L k' p' b2 hA2 hl hd => c_nil ⟨sz_of (by simp), fun q hq => ?_⟩, hR.2⟩
    have e3 := same_new (o := .tup [.str "let", .str (wordOf i), vt, v']) hq
    have b3 : But (fun b => b = x) H (upd H' q (.tup [.str "let", .str (wordOf i), vt, v'])) := b1.trans (b2.trans (But.of e3))
    have ht' := but_dp b3 (mutS1 (mut_ins hA.at_)) (noL_T _) ht
    exact hR.1 l (.ref q) _ _ k' p' b3 (lat_but hA b3 (e3 _ _ hA2.at_) hA2.hk hA2.hp hA2.hm) (.give1 hf h1 hi hl)
      (.tup (SqT.of upd_same) (.cons (.str _) (.cons (.str _) (.cons ht' (.cons (dp_mono e3 hd) .nil)))))
theorem ok_lay_ask (T : Tx K mg ad fd cL cT cN cB) (n : Nat) (G_Layer_lay_on : FnOk P w K mg base (L2.CX P w) (3 * n + 11) (ad 18) (fd 18) ["self", "hand", "word"] (spLayOn K cL cT n)) : FnOk P w K mg base (L2.CX P w) (3 * n + 12) (ad 17) (fd 17) ["self", "f", "some", "hand"] (spLayAsk K cL cT n) := by
  have G_Layer_new_word := ok_Layer_new_word (P := P) (w := w) (base := base) T
  have G_Layer_new_hand := ok_Layer_new_hand (P := P) (w := w) (base := base) T
  have G_Layer_count_part := ok_Layer_count_part (P := P) (w := w) (base := base) T 2
  refine T.F_Layer_lay_ask.okX sc_Layer_lay_ask (fun vs H Q E h => ?_) (fun cdv A outer s H vs Q E hr h => ?_)
  · obtain ⟨x, dx, nm, wl, used, k, p, m, f, sm, ys, ss, j, xs, ws, he, vh, b, rfl, _⟩ := h
    rfl
  obtain ⟨x, dx, nm, wl, used, k, p, m, f, sm, ys, ss, j, xs, ws, he, vh, b, rfl, hA, hk5, hS, hy, hh, hb, hR⟩ := h
  obtain ⟨tH, c_HOME⟩ := T.c_HOME
  have hm := hA.hm
  refine ⟨_, (pss_cons (ps_if (pt_cmpR op_isN (pv 3) pe_non (nomark _)) (pss_one (ps_ret (pe_tup (pa_cons pe_str (pa_cons (pv 1) (pa_cons (pv 2) (pa_cons (pe_glob (v := .str "home") rfl c_HOME ⟨_, rfl⟩) pa_nil))))))) pss_nil)
    (pss_cons (ps_expr (pe_meth (pv 0) T.clsL T.me_count_part G_Layer_count_part (hr.mono (by first | decide | omega)) (b_Layer_count_part T) .nil (passes_call (takes_of rfl rfl rfl rfl) (fun _ _ _ _ h => h)) (pa_cons (pe_tup pa_nil) pa_nil)))
    (pss_cons (ps_set (i := 4) sc_Layer_lay_ask.nd rfl (Or.inl rfl) (pe_meth0 (pv 0) T.clsL T.me_new_hand G_Layer_new_hand (hr.mono (by first | decide | omega)) (b_Layer_new_hand T) .nil pass0))
    (pss_cons (ps_set (i := 5) sc_Layer_lay_ask.nd rfl (Or.inl rfl) (pe_meth0 (pv 0) T.clsL T.me_new_word G_Layer_new_word (hr.mono (by first | decide | omega)) (b_Layer_new_word T) .nil pass0))
    (pss_one (ps_ret (pe_tup (pa_cons pe_str (pa_cons (pv 4) (pa_cons (pv 5) (pa_cons (pe_meth (pv 0) T.clsL T.me_lay_on G_Layer_lay_on (hr.mono (by first | decide | omega)) (b_Layer_lay_on T) .nil (passes_call (takes_of rfl rfl rfl rfl) (fun _ _ _ _ h => h)) (pa_cons (pv 3) (pa_cons (pv 5) pa_nil))) (pa_cons (pe_tup (pa_cons pe_str (pa_cons (pv 1) (pa_cons (pv 2) (pa_cons (pv 4) pa_nil))))) pa_nil)))))))))))), ?_⟩
  rcases hh with ⟨hn, rfl, rfl⟩ | ⟨c, he', cl, hf, rfl, hc, hL⟩
  · rw [hn] at hR
    refine sq_yes (a_isN (val_var rfl) (by decide +kernel)) ?_
    refine c_ret (c_tupV (va_cons val_c (va_cons (val_var rfl) (va_cons (val_var rfl) (va_cons val_c va_nil)))) (by simp) fun q hq => ?_)
    have e1 := same_new (o := .tup [.str "ask", .str f, .ref sm, .str "home"]) hq
    exact hR.1 (by omega) (.ref q) _ _ k p (But.of e1) (lat_but hA (But.of e1) (e1 _ _ hA.at_) hA.hk hA.hp hA.hm) (.ask0 hn)
      (.tup (SqT.of upd_same) (.cons (.str _) (.cons (.str _) (.cons (.tup (same_tup e1 hS) (dpa_mono e1 hy)) (.cons (.str _) .nil)))))
  · rw [hf] at hR
    simp only [hsz_some hf] at hR
    refine sq_no (a_isN (val_var rfl) (decide_eq_false (by intro z; cases z))) ?_
    refine sq_dropC (c_meth (val_var rfl) hA.at_ (lf_none (by decide +kernel)) (c_cons (c_tupV va_nil (by simp) fun q0 hq0 => c_nil ?_)))
    have e0 := same_new (o := .tup []) hq0
    refine ⟨x, dx, nm, wl, k, p, m, q0, [], [], rfl, e0 _ _ hA.at_, SqT.of upd_same, .nil, by simp, by omega, fun s hs => (by cases hs), fun l1 H1 e1 => ?_, fun l1 => ?_⟩
    · simp only [tszs] at l1 ⊢
      have b0 : But (fun b => b = x) H H1 := But.of (e0.trans e1)
      have b1 : But (fun b => b = x) H (upd H1 x (.ins cL dx (lfs nm wl k p (m + (1 + 0))))) := b0.trans (But.mut rfl)
      refine sq_setC (c_meth (val_var rfl) upd_same (lf_none (by decide +kernel)) (c_nil ?_))
      refine ⟨x, dx, nm, wl, k, p, m + (1 + 0), rfl, upd_same, by have := hA.hp; omega, ?_⟩
      rw [upd_upd]
      refine sq_setC (c_meth (val_var rfl) upd_same (lf_none (by decide +kernel)) (c_nil ?_))
      refine ⟨x, dx, nm, wl, k, p + 1, m + (1 + 0), used, rfl, upd_same, sql_but (b0.trans (But.mut rfl)) hA.at_ hA.ws, hA.few, by omega, fun i h1 h2 hi => ?_⟩
      rw [upd_upd]
      have b2 : But (fun b => b = x) H (upd H1 x (.ins cL dx (lfs nm wl (i + 1) (p + 1) (m + (1 + 0))))) := b0.trans (But.mut rfl)
      have hA1 := lat_but hA b2 upd_same (k' := i + 1) (p' := p + 1) (m' := m + (1 + 0)) (by omega) (by have := hA.hp; omega) (by omega)
      refine c_ret (c_tup' (c_cons (c_val val_c (c_cons (c_val (val_var rfl) (c_cons (c_val (val_var rfl) (c_cons (c_meth (val_var rfl) upd_same (lf_none (by decide +kernel)) (c_cons (c_val (val_var rfl) (c_cons (c_val (val_var rfl) (c_nil ?_))))))))))))))
      have em : ∀ z : Nat, m + (1 + 0) + z = m + (1 + z) := fun z => by omega
      refine ⟨x, dx, nm, wl, used, i + 1, p + 1, m + (1 + 0), c, he', cl, wordOf i, b, rfl, hA1, hc.but b2 hA.at_, hL, hb, fun l v' H' L k' p' b3 hA2 hl hd => ?_, fun l => hR.2 (by omega)⟩
      refine c_cons (c_tupV (va_cons val_c (va_cons (val_var rfl) (va_cons (val_var rfl) (va_cons (val_var rfl) va_nil)))) (by simp) fun q1 hq1 => c_nil ⟨sz_of (by simp), fun q hq => ?_⟩)
      have e3 := same_new (o := .tup [.str "ask", .str f, .ref sm, .str (wordOf p)]) hq1
      have e4 := same_new (o := .tup [.str "post", .str (wordOf p), .str (wordOf i), v', .ref q1]) hq
      have b5 := b2.trans (b3.trans (But.of (e3.trans e4)))
      have b6 := b2.trans (b3.trans (But.of e3))
      have hA3 := hA2
      rw [em] at l hA3
      refine hR.1 l (.ref q) _ _ k' p' b5 (lat_but hA b5 ((e3.trans e4) _ _ hA3.at_) hA3.hk hA3.hp hA3.hm) (.ask1 hf h1 hi hl) ?_
      refine .tup (SqT.of upd_same) (.cons (.str _) (.cons (.str _) (.cons (.str _) (.cons (dp_mono (e3.trans e4) hd) (.cons (dp_mono e4 ?_) .nil)))))
      have hyy : DpAll K _ ys ((ss.map (ren ws)).map encT) := but_dpa b6 (mutS1 (mut_ins hA.at_)) (noLs_Ts _) hy
      exact .tup (SqT.of upd_same) (.cons (.str _) (.cons (.str _) (.cons (.tup (but_tup b6 (mutS1 (mut_ins hA.at_)) hS) hyy) (.cons (.str _) .nil))))
    · simp only [tszs] at l1
      exact hR.2 (by omega)
end
end Wn
end
section
set_option Elab.async false
set_option linter.all false
set_option maxRecDepth 100000
set_option maxHeartbeats 4000000
namespace Wn
open PySem PySem.Spec PyProof.Rows L2
theorem lok_pos {d n : Nat} {P : Pts} {xs : List Str} {he : HEnv Str} (h : LOK ("home" : Str) d n P xs he) : ∃ m, n = m + 1 := by
  cases n with
  | zero => cases P <;> exact h.elim
  | succ m => exact ⟨m, rfl⟩
def isPost : Pts → Bool
  | .post _ _ _ _ => true
  | _ => false
theorem lok_simple {n : Nat} {R : Pts} {xs : List Str} {he : HEnv Str} (h : LOK ("home" : Str) 2 (n + 1) R xs he) (np : isPost R = false) : (∀ s ∈ innerS R, WFt xs s ∧ tdep s ≤ 2) ∧ (innerS R).length ≤ 10 := by
  cases R with
  | give j s => exact ⟨fun t ht => by rw [List.mem_singleton.mp ht]; exact h.1, by simp [innerS]⟩
  | ask f ss j => exact h.1
  | st tl x s T => exact ⟨fun t ht => by rw [List.mem_singleton.mp ht]; exact h.1, by simp [innerS]⟩
  | ite s T U => exact ⟨fun t ht => by rw [List.mem_singleton.mp ht]; exact h.1, by simp [innerS]⟩
  | post j x T U => cases np
theorem pp_tag {K : PySem.W.Frag} {H : Hp} {v : V} {R : Pts} (h : Dp K H v (encP R)) (np : isPost R = false) : ∃ a tg rest, v = .ref a ∧ SqT K H a (.str tg :: rest) ∧ decide (V.str tg = V.str "post") = false := by
  cases R with
  | give j s =>
    obtain ⟨a, x, rfl, hS, hx⟩ := pp_give h
    exact ⟨a, _, _, rfl, hS, by decide +kernel⟩
  | ask f ss j =>
    obtain ⟨a, t, xs, rfl, hS, ht, hx⟩ := pp_ask h
    exact ⟨a, _, _, rfl, hS, by decide +kernel⟩
  | st tl x s U =>
    obtain ⟨a, y, z, rfl, hS, hy, hz⟩ := pp_st h
    exact ⟨a, _, _, rfl, hS, kwS_ne (by decide +kernel) (by decide +kernel)⟩
  | ite s T U =>
    obtain ⟨a, x, y, z, rfl, hS, hx, hy, hz⟩ := pp_ite h
    exact ⟨a, _, _, rfl, hS, by decide +kernel⟩
  | post j x T U => cases np
theorem sz_give (n : Nat) (j : Str) (s : Tms) (he : HEnv Str) : sz (n + 1) (.give j s) (strip he) = 1 + tsz s + hsz n j he := by
  cases e : sfind (strip he) j with
  | none => simp only [sz, hsz, e]
  | some r => obtain ⟨r1, r2⟩ := r; simp only [sz, hsz, e]
section
variable {P : Program} {w : World} {K : PySem.W.Frag} {mg : Str → Option Value} {base : Heap} {ad : Nat → Addr} {fd : Nat → FuncData} {cL cT cN cB : Addr}
theorem ok_lay (T : Tx K mg ad fd cL cT cN cB) : ∀ n, FnOk P w K mg base (L2.CX P w) (3 * n + 10) (ad 15) (fd 15) ["self", "part", "words", "hands"] (spLay K cL cT n)
  | 0 => none_left fun vs H Q E h => by
    obtain ⟨x, dx, nm, wl, used, k, p, m, R, xs, ws, he, v, dw, dh, h, b, _, _, _, _, _, _, _, hl, _⟩ := h
    obtain ⟨m, e⟩ := lok_pos hl
    cases e
  | n + 1 => by
    have G_Layer_lay := ok_lay T n
    have G_Layer_lay_on := ok_lay_on T n G_Layer_lay
    have G_Layer_lay_give := ok_lay_give T n G_Layer_lay_on
    have G_Layer_lay_ask := ok_lay_ask T n G_Layer_lay_on
    have G_Layer_new_word := ok_Layer_new_word (P := P) (w := w) (base := base) T
    have G_Layer_count_part := ok_Layer_count_part (P := P) (w := w) (base := base) T 2
    have G_inner_simple := ok_inner_simple (P := P) (w := w) (base := base) T
    have G_term_by := ok_term_by (P := P) (w := w) (base := base) T 2
    refine T.F_Layer_lay.okX sc_Layer_lay (fun vs H Q E h => ?_) (fun cdv A outer s H vs Q E hr h => ?_)
    · obtain ⟨x, dx, nm, wl, used, k, p, m, R, xs, ws, he, v, dw, dh, h, b, rfl, _⟩ := h
      rfl
    obtain ⟨x, dx, nm, wl, used, k, p, m, R, xs, ws, he, v, dw, dh, h, b, rfl, hA, hv, hw, hh, hF, hc, hL, hb, hR⟩ := h
    refine ⟨_, (pss_cons (ps_if (pt_cmpR op_eq (pe_ix ix_tup (pv 1) pe_int (fun _ _ => rfl)) pe_str (nomark _)) (pss_cons (ps_set (i := 4) sc_Layer_lay.nd rfl (Or.inl rfl) (pe_callTy (T := "dict") call_dictOf (by rfl) T.z_dict (by decide +kernel) (pa_cons (pv 3) pa_nil)))
    (pss_cons (ps_dput (hu_of hr) (pv 4) (pe_ix ix_tup (pv 1) pe_int (fun _ _ => rfl)) (pe_tup (pa_cons (pe_ix ix_tup (pv 1) pe_int (fun _ _ => rfl)) (pa_cons (pe_ix ix_tup (pv 1) pe_int (fun _ _ => rfl)) (pa_cons (pv 2) (pa_cons (pv 3) pa_nil))))) rfl)
    (pss_one (ps_ret (pe_meth (pv 0) T.clsL T.me_lay G_Layer_lay (hr.mono (by first | decide | omega)) (b_Layer_lay T) .nil (passes_call (takes_of rfl rfl rfl rfl) (fun _ _ _ _ h => h)) (pa_cons (pe_ix ix_tup (pv 1) pe_int (fun _ _ => rfl)) (pa_cons (pv 2) (pa_cons (pv 4) pa_nil)))))))) pss_nil)
    (pss_cons (ps_set (i := 6) sc_Layer_lay.nd rfl (Or.inl rfl) (pe_callTy (T := "tuple") call_tuple_of (by rfl) T.z_tuple (by decide +kernel) (pa_cons (pe_lc (own := [("one", 5)]) (by rfl) sc_Layer_lay.nd (pi_tup (pe_call G_inner_simple (hr.mono (by first | decide | omega)) (by rfl) T.m_inner_simple T.F_inner_simple.kp (b_inner_simple T) .nil pass0 (pa_cons (pv 1) pa_nil))) (blkOk_by (own := [("one", 5)]) (N := ["self", "part", "words", "hands", "inner", "one", "some"]) (sc := defScope s_Layer_lay) (by decide +kernel)) (fun _ _ _ _ _ => (pg_name (i := 5) sc_Layer_lay.nd rfl (Or.inl rfl))) (fun _ _ _ _ _ => pts_nil) (fun _ _ _ _ _ => (pe_call G_term_by (hr.mono (by first | decide | omega)) (by rfl) T.m_term_by T.F_term_by.kp (b_term_by T) .nil pass0 (pa_cons (pv 5) (pa_cons (pv 2) pa_nil))))) pa_nil)))
    (pss_cons (ps_expr (pe_meth (pv 0) T.clsL T.me_count_part G_Layer_count_part (hr.mono (by first | decide | omega)) (b_Layer_count_part T) .nil (passes_call (takes_of rfl rfl rfl rfl) (fun _ _ _ _ h => h)) (pa_cons (pv 6) pa_nil)))
    (pss_cons (ps_if (pt_cmpR op_eq (pe_ix ix_tup (pv 1) pe_int (fun _ _ => rfl)) pe_str (nomark _)) (pss_cons (ps_set (i := 5) sc_Layer_lay.nd rfl (Or.inl rfl) (pe_meth (pv 0) T.clsL T.me_lay G_Layer_lay (hr.mono (by first | decide | omega)) (b_Layer_lay T) .nil (passes_call (takes_of rfl rfl rfl rfl) (fun _ _ _ _ h => h)) (pa_cons (pe_ix ix_tup (pv 1) pe_int (fun _ _ => rfl)) (pa_cons (pv 2) (pa_cons (pv 3) pa_nil)))))
    (pss_one (ps_ret (pe_tup (pa_cons pe_str (pa_cons (pe_ix ix_tup (pv 6) pe_int (fun _ _ => rfl)) (pa_cons (pv 5) (pa_cons (pe_meth (pv 0) T.clsL T.me_lay G_Layer_lay (hr.mono (by first | decide | omega)) (b_Layer_lay T) .nil (passes_call (takes_of rfl rfl rfl rfl) (fun _ _ _ _ h => h)) (pa_cons (pe_ix ix_tup (pv 1) pe_int (fun _ _ => rfl)) (pa_cons (pv 2) (pa_cons (pv 3) pa_nil)))) pa_nil)))))))) pss_nil)
    (pss_cons (ps_if (pt_cmpR op_eq (pe_ix ix_tup (pv 1) pe_int (fun _ _ => rfl)) pe_str (nomark _)) (pss_one (ps_ret (pe_meth (pv 0) T.clsL T.me_lay_give G_Layer_lay_give (hr.mono (by first | decide | omega)) (b_Layer_lay_give T) .nil (passes_call (takes_of rfl rfl rfl rfl) (fun _ _ _ _ h => h)) (pa_cons (pe_ix ix_tup (pv 6) pe_int (fun _ _ => rfl)) (pa_cons (pe_dget (hu_of hr) (pv 3) (pe_ix ix_tup (pv 1) pe_int (fun _ _ => rfl)) (fun _ _ => rfl)) pa_nil))))) pss_nil)
    (pss_cons (ps_if (pt_cmpR op_eq (pe_ix ix_tup (pv 1) pe_int (fun _ _ => rfl)) pe_str (nomark _)) (pss_one (ps_ret (pe_meth (pv 0) T.clsL T.me_lay_ask G_Layer_lay_ask (hr.mono (by first | decide | omega)) (b_Layer_lay_ask T) .nil (passes_call (takes_of rfl rfl rfl rfl) (fun _ _ _ _ h => h)) (pa_cons (pe_ix ix_tup (pv 1) pe_int (fun _ _ => rfl)) (pa_cons (pv 6) (pa_cons (pe_dget (hu_of hr) (pv 3) (pe_ix ix_tup (pv 1) pe_int (fun _ _ => rfl)) (fun _ _ => rfl)) pa_nil)))))) pss_nil)
    (pss_cons (ps_set (i := 4) sc_Layer_lay.nd rfl (Or.inl rfl) (pe_callTy (T := "dict") call_dictOf (by rfl) T.z_dict (by decide +kernel) (pa_cons (pv 2) pa_nil)))
    (pss_cons (ps_dput (hu_of hr) (pv 4) (pe_ix ix_tup (pv 1) pe_int (fun _ _ => rfl)) (pe_meth0 (pv 0) T.clsL T.me_new_word G_Layer_new_word (hr.mono (by first | decide | omega)) (b_Layer_new_word T) .nil pass0) rfl)
    (pss_one (ps_ret (pe_tup (pa_cons (pe_ix ix_tup (pv 1) pe_int (fun _ _ => rfl)) (pa_cons (pe_dget (hu_of hr) (pv 4) (pe_ix ix_tup (pv 1) pe_int (fun _ _ => rfl)) (fun _ _ => rfl)) (pa_cons (pe_ix ix_tup (pv 6) pe_int (fun _ _ => rfl)) (pa_cons (pe_meth (pv 0) T.clsL T.me_lay G_Layer_lay (hr.mono (by first | decide | omega)) (b_Layer_lay T) .nil (passes_call (takes_of rfl rfl rfl rfl) (fun _ _ _ _ h => h)) (pa_cons (pe_ix ix_tup (pv 1) pe_int (fun _ _ => rfl)) (pa_cons (pv 4) (pa_cons (pv 3) pa_nil)))) pa_nil))))))))))))))), ?_⟩
    cases np : isPost R with
    | true =>
      cases R with
      | post j x1 T1 U =>
        obtain ⟨a, y, z, rfl, hS, hy, hz⟩ := pp_post hv
        refine sq_yes (a_eq (v_ixT (val_var rfl) val_c hS rfl) val_c rfl (by decide +kernel)) ?_
        refine sq_setC (c_dictOf (val_var rfl) hh fun pd kvs hpd hdk => ?_)
        have e0 := same_new (o := .dK kvs) hpd
        have hS0 := same_tup e0 hS
        refine sq_dputC (c_tupV (va_cons (v_ixT (val_var rfl) val_c hS0 rfl) (va_cons (v_ixT (val_var rfl) val_c hS0 rfl) (va_cons (val_var rfl) (va_cons (val_var rfl) va_nil)))) (by simp) fun cl hcl => ?_)
        have e1 := same_new (o := .tup [.str x1, y, .ref dw, .ref dh]) hcl
        refine c_val (val_var rfl) (c_val (v_ixT (val_var rfl) val_c (same_tup e1 hS0) rfl) (r_dput (hdk.mono e1) (by omega) fun kvs2 hdk2 => ?_))
        have ne : cl ≠ pd := fun z => by rw [z, upd_same] at hcl; cases hcl
        have e3 := but_same (But.mut (S := fun b => b = pd) (o := .dK kvs2) rfl) (e0.trans e1) hpd
        refine c_ret (c_meth (val_var rfl) (e3 _ _ hA.at_) (lf_none (by decide +kernel)) (c_cons (c_val (v_ixT (val_var rfl) val_c (same_tup e3 hS) rfl) (c_cons (c_val (val_var rfl) (c_cons (c_val (val_var rfl) (c_nil ?_))))))))
        have hcl3 : SqT K (upd (upd (upd H pd (.dK kvs)) cl (.tup [.str x1, y, .ref dw, .ref dh])) pd (.dK kvs2)) cl [.str x1, y, .ref dw, .ref dh] := .inl (.inl (by rw [upd_ne ne, upd_same]))
        refine ⟨x, dx, nm, wl, used, k, p, m, U, xs, ws, (j, ⟨x1, T1, xs, ws⟩) :: he, _, dw, pd, fset h j (.ref cl), b + 1, rfl, ⟨e3 _ _ hA.at_, e3.seq hA.ws, hA.few, hA.hk, hA.hp, hA.hm⟩, dp_mono e3 hz, (hw.mono e3).up (by omega), hdk2,
          ⟨cl, y, dw, dh, h, fun _ => rfl, hcl3, dp_mono e3 hy, (hw.mono e3).up (by omega), (hh.mono e3).up (by omega), hc, (hF.same e3).up (by omega)⟩, hc, hL ws, by omega, ?_⟩
        exact ⟨fun l v' H' L k' p' b2 hA' hl hd => hR.1 l v' H' L k' p' ((But.of e3).trans b2) hA' (.post hl) hd, hR.2⟩
      | give j s => cases np
      | ask f ss j => cases np
      | st tl x s T => cases np
      | ite s T U => cases np
    | false =>
      obtain ⟨hWF, hlen⟩ := lok_simple hL np
      obtain ⟨a0, tg, rest, rfl, hS, htg⟩ := pp_tag hv np
      refine sq_no (a_eq (v_ixT (val_var rfl) val_c hS (atI_nat (j := 0) rfl)) val_c rfl htg) ?_
      refine sq_setC (c_cbL (c_cons (c_callL (c_cons (c_val (val_var rfl) (c_nil ⟨_, R, rfl, hv, fun q H1 ys e1 hq hy => ?_⟩))))))
      refine ⟨q, rfl, ⟨_, hq⟩, fun D hD => ?_⟩
      have hly : ys.length = (innerS R).length := by rw [dpa_length hy, List.length_map]
      refine lc_mapT hD hq (((innerS R).map (ren ws)).map encT) (by rw [List.length_map, List.length_map, hly]) (noLs_Ts _) (by omega) (fun i x' d' H' R' hxi hdi e3 r => ?_) (fun H3 acc e3 hD3 hacc => ?_) (fun x σ H P R m h => m _ _ h)
      · have hi : i < (innerS R).length := by
          rw [← hly]
          exact (List.getElem?_eq_some_iff.mp hxi).1
        have hsi : (innerS R)[i]? = some (innerS R)[i] := List.getElem?_eq_getElem hi
        rw [List.getElem?_map, List.getElem?_map, hsi] at hdi
        cases hdi
        obtain ⟨x2, z1, z2⟩ := dpa_get hy (d := encT (innerS R)[i]) (i := i) (by rw [List.getElem?_map, hsi]; rfl)
        rw [hxi] at z1
        cases z1
        have hw' := hWF _ (List.getElem_mem hi)
        refine ⟨rfl, c_call (va_cons (val_var rfl) (va_cons (val_var rfl) va_nil)) ?_⟩
        exact ⟨x', dw, b, _, (innerS R)[i], ws, rfl, dp_mono e3 z2, hw.mono (e1.trans e3), fun _ => rfl, ⟨xs, hw'.1, hc⟩, hw'.2, fun v' H' e5 h5 => r v' H' e5 h5⟩
      · refine c_nil ⟨D, _, rfl, .inl ⟨SqL.of hD3, fun t ht => ?_⟩⟩
        have e4 := same_new (o := .tup acc) ht
        have e14 := e1.trans (e3.trans e4)
        have hlt : t ≠ x := fun z => by rw [z, e3 _ _ (e1 _ _ hA.at_)] at ht; cases ht
        refine sq_dropC (c_meth (val_var rfl) (e14 _ _ hA.at_) (lf_none (by decide +kernel)) (c_cons (c_val (val_var rfl) (c_nil ?_))))
        have htz : tszs ((innerS R).map (ren ws)) = tszs (innerS R) := tszs_ren ws _
        refine ⟨x, dx, nm, wl, k, p, m, t, acc, (innerS R).map (ren ws), rfl, e14 _ _ hA.at_, SqT.of upd_same, dpa_mono e4 hacc, by rw [List.length_map]; exact hlen, by omega, fun s hs => ?_, fun l1 H5 e5 => ?_, fun l1 => ?_⟩
        · obtain ⟨s0, h0, rfl⟩ := List.mem_map.mp hs
          rw [tdep_ren]; exact (hWF s0 h0).2
        · rw [htz] at l1 ⊢
          have e15 := e14.trans e5
          have b6 : But (fun b => b = x) H (upd H5 x (.ins cL dx (lfs nm wl k p (m + (1 + tszs (innerS R)))))) := (But.of e15).trans (But.mut rfl)
          have hk := hA.hk
          have hp := hA.hp
          have hA6 := lat_but hA b6 upd_same (by omega) (by omega) l1
          have hsm : SqT K (upd H5 x (.ins cL dx (lfs nm wl k p (m + (1 + tszs (innerS R)))))) t acc := by
            refine .inl (.inl ?_)
            rw [upd_ne hlt]
            exact e5 _ _ upd_same
          have hya : DpAll K (upd H5 x (.ins cL dx (lfs nm wl k p (m + (1 + tszs (innerS R)))))) acc (((innerS R).map (ren ws)).map encT) := by
            have z : But (fun b => b = x) H3 (upd H5 x (.ins cL dx (lfs nm wl k p (m + (1 + tszs (innerS R)))))) := (But.of (e4.trans e5)).trans (But.mut rfl)
            exact but_dpa z (mutS1 (mut_ins ((e1.trans e3) _ _ hA.at_))) (noLs_Ts _) hacc
          have mx := mut_ins hA.at_
          have hv6 := but_dp b6 (mutS1 mx) (noL_P _) hv
          have hF6 := hF.but b6 hA.at_
          have hh6 := hh.but b6 hA.at_
          have hw6 := hw.but b6 hA.at_
          generalize upd H5 x (HO.ins cL dx (lfs nm wl k p (m + (1 + tszs (innerS R))))) = H6 at *
          cases R with
          | post j x T U => cases np
          | give j s =>
            obtain ⟨a, y, e, hS6, hy6⟩ := pp_give hv6
            cases e
            obtain ⟨vt, r1, rfl, d1, hya⟩ := dpa_cons hya
            cases dpa_nil hya
            obtain ⟨vh, z1, z2⟩ := fhand_of (n := n) (j := j) hF6 (fun e => by have q := hL.2; rw [e] at q; exact q) (fun c he' e => by have q := hL.2; rw [e] at q; exact q)
            have esz := sz_give n j s he
            have ets : tszs (innerS (.give j s)) = tsz s := by simp [innerS, tszs]
            rw [esz] at hR
            rw [ets] at l1 hA6
            refine sq_no (a_eq (v_ixT (val_var rfl) val_c hS6 rfl) val_c rfl (by decide +kernel)) ?_
            refine sq_yes (a_eq (v_ixT (val_var rfl) val_c hS6 rfl) val_c rfl (by decide +kernel)) ?_
            refine c_ret (c_meth (val_var rfl) hA6.at_ (lf_none (by decide +kernel)) (c_cons (c_val (v_ixT (val_var rfl) val_c hsm rfl) (c_cons (c_val (v_dget (val_var rfl) (v_ixT (val_var rfl) val_c hS6 rfl) hh6 z1) (c_nil ?_))))))
            refine ⟨x, dx, nm, wl, used, k, p, m + (1 + tsz s), s, s, j, xs, ws, he, vt, vh, b, rfl, hA6, by omega, d1, z2, by omega, ?_⟩
            have em : m + (1 + tsz s + hsz n j he) = m + (1 + tsz s) + hsz n j he := by omega
            unfold LRes at hR ⊢
            rw [em] at hR
            exact ⟨fun l v' H' L k' p' b2 hA' hl hd => hR.1 l v' H' L k' p' (b6.trans b2) hA' hl hd, hR.2⟩
          | ask f ss j =>
            obtain ⟨a, t', ys', e, hS6, hT6, hy6⟩ := pp_ask hv6
            cases e
            obtain ⟨vh, z1, z2⟩ := fhand_of (n := n) (j := j) hF6 (fun e => by have q := hL.2; rw [e] at q; exact q) (fun c he' e => by have q := hL.2; rw [e] at q; exact q)
            have esz : sz (n + 1) (.ask f ss j) (strip he) = 1 + tszs ss + (match hfind he j with | none => 0 | some _ => 1 + hsz n j he) := by
              cases ef : hfind he j with
              | none =>
                have es : sfind (strip he) j = none := by rw [sfind_strip, ef]; rfl
                simp only [sz, es]
              | some r =>
                have es : sfind (strip he) j = some (r.1.T, strip r.2) := by rw [sfind_strip, ef]; rfl
                simp only [sz, hsz, es]
            have ets : tszs (innerS (.ask f ss j)) = tszs ss := rfl
            rw [esz] at hR
            rw [ets] at l1 hA6
            refine sq_no (a_eq (v_ixT (val_var rfl) val_c hS6 rfl) val_c rfl (by decide +kernel)) ?_
            refine sq_no (a_eq (v_ixT (val_var rfl) val_c hS6 rfl) val_c rfl (by decide +kernel)) ?_
            refine sq_yes (a_eq (v_ixT (val_var rfl) val_c hS6 rfl) val_c rfl (by decide +kernel)) ?_
            refine c_ret (c_meth (val_var rfl) hA6.at_ (lf_none (by decide +kernel)) (c_cons (c_val (v_ixT (val_var rfl) val_c hS6 rfl) (c_cons (c_val (val_var rfl) (c_cons (c_val (v_dget (val_var rfl) (v_ixT (val_var rfl) val_c hS6 rfl) hh6 z1) (c_nil ?_))))))))
            refine ⟨x, dx, nm, wl, used, k, p, m + (1 + tszs ss), f, t, acc, ss, j, xs, ws, he, vh, b, rfl, hA6, by omega, hsm, hya, z2, by omega, ?_⟩
            have em : ∀ z, m + (1 + tszs ss + z) = m + (1 + tszs ss) + z := fun z => by omega
            unfold LRes at hR ⊢
            rw [em] at hR
            exact ⟨fun l v' H' L k' p' b2 hA' hl hd => hR.1 l v' H' L k' p' (b6.trans b2) hA' hl hd, hR.2⟩
          | ite s T1 U =>
            obtain ⟨a, y1, y2, y3, e, hS6, hy6, hy7, hy8⟩ := pp_ite hv6
            cases e
            obtain ⟨vt, r1, rfl, d1, hya⟩ := dpa_cons hya
            cases dpa_nil hya
            have esz : sz (n + 1) (.ite s T1 U) (strip he) = 1 + tsz s + sz n T1 (strip he) + sz n U (strip he) := rfl
            have ets : tszs (innerS (.ite s T1 U)) = tsz s := by simp [innerS, tszs]
            rw [esz] at hR
            rw [ets] at l1 hA6
            refine sq_yes (a_eq (v_ixT (val_var rfl) val_c hS6 rfl) val_c rfl (by decide +kernel)) ?_
            refine sq_setC (c_meth (val_var rfl) hA6.at_ (lf_none (by decide +kernel)) (c_cons (c_val (v_ixT (val_var rfl) val_c hS6 rfl) (c_cons (c_val (val_var rfl) (c_cons (c_val (val_var rfl) (c_nil ?_))))))))
            refine ⟨x, dx, nm, wl, used, k, p, m + (1 + tsz s), T1, xs, ws, he, _, dw, dh, h, b, rfl, hA6, hy7, hw6, hh6, hF6, hc, hL.2.1, by omega, fun l2 v' H7 L1 k1 p1 b7 hA7 hl1 hd1 => ?_, fun l2 => hR.2 (by omega)⟩
            have mx6 := mut_ins hA6.at_
            have hS7 := but_tup b7 (mutS1 mx6) hS6
            have hsm7 := but_tup b7 (mutS1 mx6) hsm
            refine c_ret (c_tup' (c_cons (c_val val_c (c_cons (c_val (v_ixT (val_var rfl) val_c hsm7 rfl) (c_cons (c_val (val_var rfl) (c_cons (c_meth (val_var rfl) hA7.at_ (lf_none (by decide +kernel)) (c_cons (c_val (v_ixT (val_var rfl) val_c hS7 rfl) (c_cons (c_val (val_var rfl) (c_cons (c_val (val_var rfl) (c_nil ?_))))))))))))))))
            refine ⟨x, dx, nm, wl, used, k1, p1, m + (1 + tsz s) + sz n T1 (strip he), U, xs, ws, he, _, dw, dh, h, b, rfl, hA7, but_dp b7 (mutS1 mx6) (noL_P _) hy8, hw6.but b7 hA6.at_, hh6.but b7 hA6.at_, hF6.but b7 hA6.at_, hc, hL.2.2, by omega, fun l3 v2 H8 L2 k2 p2 b8 hA8 hl2 hd2 => ?_, fun l3 => hR.2 (by omega)⟩
            refine c_nil ⟨sz_of (by simp), fun q hq => ?_⟩
            have e9 := same_new (o := .tup [.str "if", vt, v', v2]) hq
            have b9 := b7.trans (b8.trans (But.of e9))
            have b89 := b8.trans (But.of e9)
            have em : m + (1 + tsz s + sz n T1 (strip he) + sz n U (strip he)) = m + (1 + tsz s) + sz n T1 (strip he) + sz n U (strip he) := by omega
            refine hR.1 (by omega) (.ref q) _ _ k2 p2 (b6.trans b9) (by rw [em]; exact lat_but hA7 b89 (e9 _ _ hA8.at_) hA8.hk hA8.hp hA8.hm) (.ite hl1 hl2) ?_
            refine .tup (SqT.of upd_same) (.cons (.str _) (.cons (but_dp b9 (mutS1 mx6) (noL_T _) d1) (.cons (but_dp b89 (mutS1 (mut_ins hA7.at_)) (noL_P _) hd1) (.cons (dp_mono e9 hd2) .nil))))
          | st tl x1 s T1 =>
            obtain ⟨a, y1, y2, e, hS6, hy6, hy7⟩ := pp_st hv6
            cases e
            obtain ⟨vt, r1, rfl, d1, hya⟩ := dpa_cons hya
            cases dpa_nil hya
            have esz : sz (n + 1) (.st tl x1 s T1) (strip he) = 1 + tsz s + sz n T1 (strip he) := rfl
            have ets : tszs (innerS (.st tl x1 s T1)) = tsz s := by simp [innerS, tszs]
            rw [esz] at hR
            rw [ets] at l1 hA6
            refine sq_no (a_eq (v_ixT (val_var rfl) val_c hS6 rfl) val_c rfl (kwS_ne (by decide +kernel) (by decide +kernel))) ?_
            refine sq_no (a_eq (v_ixT (val_var rfl) val_c hS6 rfl) val_c rfl (kwS_ne (by decide +kernel) (by decide +kernel))) ?_
            refine sq_no (a_eq (v_ixT (val_var rfl) val_c hS6 rfl) val_c rfl (kwS_ne (by decide +kernel) (by decide +kernel))) ?_
            refine sq_setC (c_dictOf (val_var rfl) hw6 fun pd kvs hpd hdk => ?_)
            have e7 := same_new (o := .dK kvs) hpd
            have hA7 : LAt K cL x dx nm wl used k p (m + (1 + tsz s)) (upd H6 pd (.dK kvs)) := lat_but hA6 (But.of e7) (e7 _ _ hA6.at_) hA6.hk hA6.hp hA6.hm
            refine sq_dputC (c_meth (val_var rfl) hA7.at_ (lf_none (by decide +kernel)) (c_nil ?_))
            refine ⟨x, dx, nm, wl, k, p, m + (1 + tsz s), used, rfl, hA7.at_, hA7.ws, hA7.few, by omega, fun i h1 h2 hi => ?_⟩
            have b8 : But (fun b => b = x) (upd H6 pd (.dK kvs)) (upd (upd H6 pd (.dK kvs)) x (.ins cL dx (lfs nm wl (i + 1) p (m + (1 + tsz s))))) := But.mut rfl
            have hA8 := lat_but hA7 b8 upd_same (k' := i + 1) (p' := p) (m' := m + (1 + tsz s)) (by omega) hA7.hp hA7.hm
            have b78 := (But.of (S := fun b => b = x) e7).trans b8
            have hS8 := but_tup b78 (mutS1 (mut_ins hA6.at_)) hS6
            refine c_val (val_var rfl) (c_val (v_ixT (val_var rfl) val_c hS8 rfl) (r_dput (hdk.but b8 hA7.at_) (by omega) fun kvs2 hdk2 => ?_))
            have npx : x ≠ pd := fun z => by rw [← z, hA6.at_] at hpd; cases hpd
            have b9 : But (fun b => b = x) H6 (upd (upd (upd H6 pd (.dK kvs)) x (.ins cL dx (lfs nm wl (i + 1) p (m + (1 + tsz s))))) pd (.dK kvs2)) := fun b o nb hb => by
              have nbp : b ≠ pd := fun z => by rw [z, hpd] at hb; cases hb
              rw [upd_ne nbp]; exact b78 b o nb hb
            have hx9 : upd (upd (upd H6 pd (.dK kvs)) x (.ins cL dx (lfs nm wl (i + 1) p (m + (1 + tsz s))))) pd (.dK kvs2) x = some (.ins cL dx (lfs nm wl (i + 1) p (m + (1 + tsz s)))) := by rw [upd_ne npx, upd_same]
            have hA9 := lat_but hA6 b9 hx9 hA8.hk hA8.hp hA8.hm
            have mx6 := mut_ins hA6.at_
            have hS9 := but_tup b9 (mutS1 mx6) hS6
            have hsm9 := but_tup b9 (mutS1 mx6) hsm
            refine c_ret (c_tup' (c_cons (c_val (v_ixT (val_var rfl) val_c hS9 rfl) (c_cons (c_val (v_dget (val_var rfl) (v_ixT (val_var rfl) val_c hS9 rfl) hdk2 fset_same) (c_cons (c_val (v_ixT (val_var rfl) val_c hsm9 rfl) (c_cons (c_meth (val_var rfl) hA9.at_ (lf_none (by decide +kernel)) (c_cons (c_val (v_ixT (val_var rfl) val_c hS9 rfl) (c_cons (c_val (val_var rfl) (c_cons (c_val (val_var rfl) (c_nil ?_))))))))))))))))
            refine ⟨x, dx, nm, wl, used, i + 1, p, m + (1 + tsz s), T1, x1 :: xs, fset ws x1 (wordOf i), he, _, pd, dh, h, b + 1, rfl, hA9, but_dp b9 (mutS1 mx6) (noL_P _) hy7, hdk2.ext fun y => fset_map y, (hh6.but b9 hA6.at_).up (by omega), (hF6.but b9 hA6.at_).up (by omega), fun y hy => ?_, hL.2, by omega, fun l2 v' H7 L1 k1 p1 b7 hA7' hl1 hd1 => ?_, fun l2 => hR.2 (by omega)⟩
            · by_cases e : y = x1
              · exact ⟨wordOf i, by rw [e]; exact fset_same⟩
              · rw [fset_ne e]
                exact hc y ((List.mem_cons.mp hy).resolve_left e)
            · refine c_nil ⟨sz_of (by simp), fun q hq => ?_⟩
              have e10 := same_new (o := .tup [.str (kwS tl), .str (wordOf i), vt, v']) hq
              have b10 := b9.trans (b7.trans (But.of e10))
              have em : m + (1 + tsz s + sz n T1 (strip he)) = m + (1 + tsz s) + sz n T1 (strip he) := by omega
              refine hR.1 (by omega) (.ref q) _ _ k1 p1 (b6.trans b10) (by rw [em]; exact lat_but hA6 b10 (e10 _ _ hA7'.at_) hA7'.hk hA7'.hp hA7'.hm) (.st h1 hi hl1) ?_
              exact .tup (SqT.of upd_same) (.cons (.str _) (.cons (.str _) (.cons (but_dp b10 (mutS1 mx6) (noL_T _) d1) (.cons (dp_mono e10 hd1) .nil))))
        · rw [htz] at l1
          cases R with
          | post j x T U => cases np
          | give j s =>
            have esz := sz_give n j s he
            have ets : tszs (innerS (.give j s)) = tsz s := by simp [innerS, tszs]
            exact hR.2 (by omega)
          | ask f ss j =>
            have esz : 1 + tszs ss ≤ sz (n + 1) (.ask f ss j) (strip he) := Nat.le_add_right _ _
            have ets : tszs (innerS (.ask f ss j)) = tszs ss := rfl
            exact hR.2 (by omega)
          | ite s T1 U =>
            have esz : sz (n + 1) (.ite s T1 U) (strip he) = 1 + tsz s + sz n T1 (strip he) + sz n U (strip he) := rfl
            have ets : tszs (innerS (.ite s T1 U)) = tsz s := by simp [innerS, tszs]
            exact hR.2 (by omega)
          | st tl x1 s T1 =>
            have esz : sz (n + 1) (.st tl x1 s T1) (strip he) = 1 + tsz s + sz n T1 (strip he) := rfl
            have ets : tszs (innerS (.st tl x1 s T1)) = tsz s := by simp [innerS, tszs]
            exact hR.2 (by omega)
end
end Wn
end
section
set_option Elab.async false
set_option linter.all false
set_option maxRecDepth 100000
set_option maxHeartbeats 4000000
namespace Wn
open PySem PySem.Spec PyProof.Rows L2
/-- an errand of a turned book -/
abbrev Er := Str × List Str × Pts
def encR (e : Er) : PyData := encE e.1 e.2.1 (encP e.2.2)
def encBk (l : List Er) : PyData := .tuple (l.map encR)
theorem c_methC {σ : L2.St} {H : Hp} {ta : TE} {tr : TA} {Q : VK} {E : XK} {C : Addr} {m : Str} {sp : Sp} {dvs : List V} (h : ta σ H fun x H1 => ∃ a dx fs, x = .ref a ∧ H1 a = some (.ins C dx fs) ∧ fs.lookup m = none ∧ tr σ H1 fun vs H2 => sp (x :: (vs ++ dvs)) H2 Q E) : tMeth C m sp dvs E ta tr σ H Q := h
theorem c_makeC {σ : L2.St} {H : Hp} {t : TA} {Q : VK} {E : XK} {C : Addr} {sp : Sp} {dvs : List V} (h : t σ H fun vs H1 => ∀ x dx, H1 x = none → H1 dx = none → dx ≠ x → sp (.ref x :: (vs ++ dvs)) (upd (upd H1 dx (.own x)) x (.ins C dx [])) (fun v H2 => v = .non ∧ Q (.ref x) H2) E) : tMake C sp dvs E t σ H Q := h
theorem noL_R (e : Er) : noL (encR e) := by
  show noLs [.str e.1, .tuple (e.2.1.map .str), encP e.2.2]
  exact ⟨trivial, noLs_strs _, noL_P _, trivial⟩
theorem noLs_Rs : ∀ l : List Er, noLs (l.map encR)
  | [] => trivial
  | e :: r => ⟨noL_R e, noLs_Rs r⟩
theorem pp_er {K : PySem.W.Frag} {H : Hp} {v : V} {f : Str} {xs : List Str} {d : PyData} (h : Dp K H v (encE f xs d)) : ∃ a t z, v = .ref a ∧ SqT K H a [.str f, .ref t, z] ∧ SqT K H t (xs.map .str) ∧ Dp K H z d := by
  obtain ⟨a, ys, rfl, h1, h2⟩ := dp_tup h
  obtain ⟨x, r, rfl, q1, h2⟩ := dpa_cons h2
  obtain ⟨y, r, rfl, q2, h2⟩ := dpa_cons h2
  obtain ⟨z, r, rfl, q3, h2⟩ := dpa_cons h2
  cases dpa_nil h2; cases dp_str q1
  obtain ⟨t, ts, rfl, h3, h4⟩ := dp_tup q2
  rw [dpa_strs h4] at h3
  exact ⟨a, t, z, rfl, h1, h3, q3⟩
theorem mk_er {K : PySem.W.Frag} {H : Hp} {a t : Addr} {z : V} {f : Str} {xs : List Str} {d : PyData} (h1 : SqT K H a [.str f, .ref t, z]) (h2 : SqT K H t (xs.map .str)) (h3 : Dp K H z d) : Dp K H (.ref a) (encE f xs d) :=
  .tup h1 (.cons (.str _) (.cons (.tup h2 dpa_of_strs) (.cons h3 .nil)))
/-- each word its own -/
def idw (xs : List Str) : Str → Option Str := fun y => if y ∈ xs then some y else none
theorem idw_merge (xs : List Str) : ∀ (y : Str), valV (mergeK [] (xs.map fun x => ((Sum.inr x : Key), V.str x))) (.inr y) = (idw xs y).map V.str := by
  have key : ∀ (xs : List Str) (kvs : List (Key × V)) (y : Str), valV (mergeK kvs (xs.map fun x => ((Sum.inr x : Key), V.str x))) (.inr y) = if y ∈ xs then some (.str y) else valV kvs (.inr y) := by
    intro xs
    induction xs with
    | nil => intro kvs y; rw [if_neg (by simp)]; rfl
    | cons x xs ih =>
      intro kvs y
      show valV (mergeK (putK kvs (Sum.inr x) (.str x)) (xs.map _)) (.inr y) = _
      rw [ih, valV_put]
      by_cases h : y ∈ xs
      · rw [if_pos h, if_pos (List.mem_cons_of_mem _ h)]
      · rw [if_neg h]
        by_cases e : y = x
        · rw [if_pos (by rw [e]), if_pos (by rw [e]; exact List.mem_cons_self), e]
        · rw [if_neg (fun z => e (Sum.inr.inj z)), if_neg (by simp [h, e])]
  intro y
  rw [key]
  unfold idw
  by_cases h : y ∈ xs
  · rw [if_pos h, if_pos h]; rfl
  · rw [if_neg h, if_neg h]; rfl
theorem pairs_strs {K : PySem.W.Frag} {H : Hp} : ∀ {xs : List Str} {acc : List V}, DpAll K H acc (xs.map fun x => PyData.tuple [.str x, .str x]) →
    ∃ ps : List Addr, acc = ps.map V.ref ∧ Paired (fun (p : Addr) (kv : Key × V) => SqT K H p [kV kv.1, kv.2]) ps (xs.map fun x => ((Sum.inr x : Key), V.str x))
  | [], acc, h => by
    cases dpa_nil h
    exact ⟨[], rfl, .nil⟩
  | x :: xs, acc, h => by
    obtain ⟨y, r, rfl, h1, h2⟩ := dpa_cons h
    obtain ⟨ps, rfl, hp⟩ := pairs_strs h2
    obtain ⟨a, ys, rfl, h3, h4⟩ := dp_tup h1
    obtain ⟨z1, r, rfl, d1, h4⟩ := dpa_cons h4
    obtain ⟨z2, r, rfl, d2, h4⟩ := dpa_cons h4
    cases dpa_nil h4; cases dp_str d1; cases dp_str d2
    exact ⟨a :: ps, rfl, .cons h3 hp⟩
/-- a laid errand -/
def LaidE (e e' : Er) : Prop := e'.1 = e.1 ∧ e'.2.1 = e.2.1 ∧ ∃ k p, LayR ("home" : Str) wordOf e.2.1 e.2.2 e.2.1 (idw e.2.1) [] 0 0 e'.2.2 k p
inductive LaidBk : List Er → List Er → Prop
  | nil : LaidBk [] []
  | cons {e e' l l'} : LaidE e e' → LaidBk l l' → LaidBk (e :: l) (e' :: l')
theorem LaidBk.snoc {e e' : Er} : ∀ {l l' : List Er}, LaidBk l l' → LaidE e e' → LaidBk (l ++ [e]) (l' ++ [e'])
  | _, _, .nil, h => .cons h .nil
  | _, _, .cons q t, h => .cons q (t.snoc h)
theorem LaidBk.get {l l' : List Er} (h : LaidBk l l') : ∀ {i : Nat} {e' : Er}, l'[i]? = some e' → ∃ e, l[i]? = some e ∧ LaidE e e' := by
  induction h with
  | nil => intro i e' q; simp at q
  | cons h1 _ ih =>
    intro i e' q
    cases i with
    | zero => cases q; exact ⟨_, rfl, h1⟩
    | succ i => exact ih q
theorem LaidBk.length {l l' : List Er} (h : LaidBk l l') : l'.length = l.length := by
  induction h with
  | nil => rfl
  | cons _ _ ih => simp [ih]
def spLaid (K : PySem.W.Frag) (cL cT : Addr) (n : Nat) : Sp := fun vs H Q E => ∃ (v : V) (bk : List Er), vs = [v] ∧ Dp K H v (encBk bk) ∧ bk.length ≤ 10 ∧ (∀ e ∈ bk, e.2.1.length ≤ 4 ∧ LOK ("home" : Str) 2 n e.2.2 e.2.1 []) ∧ n ≤ 900 ∧
  ((∀ e ∈ bk, sz n e.2.2 [] ≤ 200) → ∀ v' H' bk', Same H H' → LaidBk bk bk' → Dp K H' v' (encBk bk') → Q v' H') ∧ (∀ e ∈ bk, 200 < sz n e.2.2 [] → ∀ dd H', E (.ref cT) dd H')
section
variable {P : Program} {w : World} {K : PySem.W.Frag} {mg : Str → Option Value} {base : Heap} {ad : Nat → Addr} {fd : Nat → FuncData} {cL cT cN cB : Addr}
theorem ok_laid (T : Tx K mg ad fd cL cT cN cB) (n : Nat) : FnOk P w K mg base (L2.CX P w) (3 * n + 11) (ad 19) (fd 19) ["turned_book"] (spLaid K cL cT n) := by
  have G_Layer_lay := ok_lay (P := P) (w := w) (base := base) T n
  have G_Layer_init := ok_Layer_init (P := P) (w := w) (base := base) T
  refine T.F_laid.okX sc_laid (fun vs H Q E h => ?_) (fun cdv A outer s H vs Q E hr h => ?_)
  · obtain ⟨v, bk, rfl, _⟩ := h
    rfl
  obtain ⟨v, bk, rfl, hv, hlen, hbk, hn, q1, q2⟩ := h
  obtain ⟨tH, c_HOME⟩ := T.c_HOME
  obtain ⟨a, xs, rfl, hS, hx⟩ := dp_tup hv
  have lx : xs.length = bk.length := by rw [dpa_length hx, List.length_map]
  refine ⟨_, (pss_cons (ps_set (i := 1) sc_laid.nd rfl (Or.inl rfl) (pe_lst pa_nil))
    (pss_cons (ps_for (passes_of rfl) rfl (pi_tup (pv 0)) (pg_tup (by rfl) (pgs_cons (pg_name (i := 2) sc_laid.nd rfl (Or.inl rfl)) (pgs_cons (pg_name (i := 3) sc_laid.nd rfl (Or.inl rfl)) (pgs_cons (pg_name (i := 4) sc_laid.nd rfl (Or.inl rfl)) pgs_nil))))
    (pss_cons (ps_set (i := 5) sc_laid.nd rfl (Or.inl rfl) (pe_callTy (T := "dict") (call_dictP rfl) (by rfl) T.z_dict (by decide +kernel) (pa_cons (pe_lc (own := [("one", 6)]) (by rfl) sc_laid.nd (pi_tup (pv 3)) (blkOk_by (own := [("one", 6)]) (N := ["turned_book", "found", "name", "names", "body", "words", "one"]) (sc := defScope s_laid) (by decide +kernel)) (fun _ _ _ _ _ => (pg_name (i := 6) sc_laid.nd rfl (Or.inl rfl))) (fun _ _ _ _ _ => pts_nil) (fun _ _ _ _ _ => (pe_tup (pa_cons (pv 6) (pa_cons (pv 6) pa_nil))))) pa_nil)))
    (pss_one (ps_expr (pe_bm PySem.F.plainAttrs_list PySem.F.slot_list_append PySem.F.type_list_append mt_append (pv 1) (pa_cons (pe_tup (pa_cons (pv 2) (pa_cons (pv 3) (pa_cons (pe_meth (pe_make T.mkL G_Layer_init (hr.mono (by first | decide | omega)) (by rfl) T.m_Layer (b_Layer_init T) .nil pass0 (pa_cons (pv 2) (pa_cons (pe_callTy (T := "list") call_list_of (by rfl) T.z_list (by decide +kernel) (pa_cons (pv 3) pa_nil)) pa_nil))) T.clsL T.me_lay G_Layer_lay (hr.mono (by first | decide | omega)) (b_Layer_lay T) .nil (passes_call (takes_of rfl rfl rfl rfl) (fun _ _ _ _ h => h)) (pa_cons (pv 4) (pa_cons (pv 5) (pa_cons (pe_disp (pps_cons (pe_glob (v := .str "home") rfl c_HOME ⟨_, rfl⟩) pe_non pps_nil) (by rfl) (by rfl) (fun z => by cases z) (by decide)) pa_nil)))) pa_nil)))) pa_nil))))))
    (pss_one (ps_ret (pe_callTy (T := "tuple") call_tuple_of (by rfl) T.z_tuple (by decide +kernel) (pa_cons (pv 1) pa_nil)))))), ?_⟩
  refine sq_setC (c_lstV va_nil (by simp) fun f hf => ?_)
  have e0 : Same H (upd H f (.lst [])) := same_new hf
  refine st_seq ⟨_, rfl, a, rfl, ⟨xs, same_tup e0 hS⟩, for_tup (xs := xs) (fun i σ H' => ∃ a2 a3 a4 a5 a6 acc bkA, σ = [some (.ref a), some (.ref f), a2, a3, a4, a5, a6] ∧ Same H H' ∧ H' f = some (.lst acc) ∧ DpAll K H' acc (bkA.map encR) ∧ LaidBk (bk.take i) bkA ∧ (∀ e ∈ bk.take i, sz n e.2.2 [] ≤ 200)) ?_ ?_ ?_ ?_⟩
  · exact ⟨none, none, none, none, none, [], [], rfl, e0, upd_same, .nil, by rw [List.take_zero]; exact .nil, fun e h => by simp at h⟩
  · rintro i σ H' _ ⟨a2, a3, a4, a5, a6, acc, bkA, _, e, _⟩
    exact same_tup e hS
  · rintro i x σ H1 hxi ⟨a2, a3, a4, a5, a6, acc, bkA, rfl, e1, hf1, hacc, hlb, hsm⟩
    have hi : i < bk.length := by
      rw [← lx]
      exact (List.getElem?_eq_some_iff.mp hxi).1
    have hbi : bk[i]? = some bk[i] := List.getElem?_eq_getElem hi
    obtain ⟨x2, z1, z2⟩ := dpa_get hx (d := encR bk[i]) (i := i) (by rw [List.getElem?_map, hbi]; rfl)
    rw [hxi] at z1
    cases z1
    obtain ⟨h4, hL⟩ := hbk _ (List.getElem_mem hi)
    generalize hbe : bk[i] = be at *
    obtain ⟨nm, names, R⟩ := be
    obtain ⟨ae, te, ze, rfl, hE, hN, hB⟩ := pp_er z2
    refine ⟨ae, _, rfl, same_tup e1 hE, rfl, _, _, rfl, _, _, rfl, _, _, rfl, rfl, ?_⟩
    refine sq_setC (c_cbL (c_cons ⟨_, rfl, te, rfl, ⟨_, same_tup e1 hN⟩, fun D hD => ?_⟩))
    refine lc_mapT hD (same_tup e1 hN) (names.map fun x => PyData.tuple [.str x, .str x]) (by simp) ?_ (by simp at h4 ⊢; omega) (fun i x' d' H' R' hxi hdi e3 r => ?_) (fun H3 acc2 e3 hD3 hacc2 => ?_) (fun x σ H P R m h => m _ _ h)
    · have key : ∀ l : List Str, noLs (l.map fun x => PyData.tuple [.str x, .str x]) := by
        intro l
        induction l with
        | nil => trivial
        | cons a l ih => exact ⟨⟨trivial, trivial, trivial⟩, ih⟩
      exact key names
    · rw [List.getElem?_map] at hxi hdi
      cases hni : names[i]? with
      | none => rw [hni] at hxi; cases hxi
      | some x0 =>
        rw [hni] at hxi hdi
        cases hxi; cases hdi
        exact ⟨rfl, c_tupV (va_cons (val_var rfl) (va_cons (val_var rfl) va_nil)) (by simp) fun p hp => r (.ref p) _ (same_new hp) (.tup (SqT.of upd_same) (.cons (.str _) (.cons (.str _) .nil)))⟩
    · obtain ⟨ps, rfl, hps⟩ := pairs_strs hacc2
      refine c_nil ⟨D, ps, _, rfl, SqL.of hD3, hps, fun pw hpw => ?_⟩
      have e4 := same_new (o := .dK (mergeK [] (names.map fun x => ((Sum.inr x : Key), V.str x)))) hpw
      have e14 := e1.trans (e3.trans e4)
      have hdw : DK (upd H3 pw (.dK (mergeK [] (names.map fun x => ((Sum.inr x : Key), V.str x))))) pw 4 (fun y => (idw names y).map V.str) := ⟨_, upd_same, by
        have z := length_mergeK (names.map fun x => ((Sum.inr x : Key), V.str x)) []
        rw [List.length_map, List.length_nil] at z
        simp at h4
        omega, idw_merge names⟩
      generalize upd H3 pw (.dK (mergeK [] (names.map fun x => ((Sum.inr x : Key), V.str x)))) = H4 at *
      have hf4 := (e3.trans e4) _ _ hf1
      refine c_drop (c_bm (val_var rfl) ⟨_, SqL.of hf4⟩ (c_cons ?_))
      refine c_tup' (c_cons (c_val (val_var rfl) (c_cons (c_val (val_var rfl) (c_cons ?_)))))
      refine c_methC (c_makeC (c_cons (c_val (val_var rfl) (c_cons (c_cbL (c_cons (c_val (val_var rfl) (c_nil ⟨te, _, rfl, .inr (same_tup e14 hN), fun wl hwl => c_nil fun x dx hx' hdx nd => ?_⟩))))))))
      have e5 := same_new (o := .lst (names.map V.str)) hwl
      have hwl5 : upd H4 wl (.lst (names.map V.str)) wl = some (.lst (names.map V.str)) := upd_same
      generalize upd H4 wl (.lst (names.map V.str)) = H5 at *
      refine ⟨x, dx, nm, wl, rfl, upd_same, rfl, x, dx, _, rfl, upd_same, lf_none (by decide +kernel), ?_⟩
      rw [upd_upd]
      have e6 : Same H5 (upd (upd H5 dx (.own x)) x (.ins cL dx (lfs nm wl 0 0 0))) := (same_new hdx).trans (same_new (by rw [upd_ne (Ne.symm nd)]; exact hx'))
      have hA6 : LAt K cL x dx nm wl names 0 0 0 (upd (upd H5 dx (.own x)) x (.ins cL dx (lfs nm wl 0 0 0))) := ⟨upd_same, SqL.of (e6 _ _ hwl5), h4, by omega, by omega, by omega⟩
      generalize upd (upd H5 dx (.own x)) x (.ins cL dx (lfs nm wl 0 0 0)) = H6 at *
      refine c_cons (c_val (val_var rfl) (c_cons (c_val (val_var rfl) (c_cons fun ph hph => ⟨upd_same, [(Sum.inr ("home" : Str), V.non)], rfl, by simp, c_nil ?_⟩))))
      rw [upd_upd]
      have e7 := same_new (o := .dK (mergeK [] [((Sum.inr ("home" : Str) : Key), V.non)])) hph
      have hh7 : DK (upd H6 ph (.dK (mergeK [] [((Sum.inr ("home" : Str) : Key), V.non)]))) ph 4 (fun k => if k = ("home" : Str) then some V.non else none) := ⟨_, upd_same, by decide, fun k => by
        show valV (putK [] (Sum.inr ("home" : Str)) V.non) (Sum.inr k) = _
        rw [valV_put]
        by_cases e : k = ("home" : Str)
        · rw [if_pos (by rw [e])]; exact (if_pos e).symm
        · rw [if_neg (fun z => e (Sum.inr.inj z))]; exact (if_neg e).symm⟩
      generalize upd H6 ph (.dK (mergeK [] [((Sum.inr ("home" : Str) : Key), V.non)])) = H7 at *
      have e57 := e5.trans (e6.trans e7)
      have hx4 : H4 x = none := by
        cases q : H4 x with
        | none => rfl
        | some o => rw [e5 _ _ q] at hx'; cases hx'
      refine ⟨x, dx, nm, wl, names, 0, 0, 0, R, names, idw names, [], ze, pw, ph, _, 4, rfl, ⟨e7 _ _ hA6.at_, e7.seq hA6.ws, hA6.few, hA6.hk, hA6.hp, hA6.hm⟩, dp_mono (e14.trans e57) hB, hdw.mono e57, hh7, fun k => rfl, fun y hy => ⟨y, if_pos hy⟩, hL, by omega, fun l v' H8 L k' p' b8 hA8 hl hd => ?_, fun l => q2 _ (List.mem_of_getElem? hbi) (by simpa [strip] using l)⟩
      have hx1 : H1 x = none := by
        cases q : H1 x with
        | none => rfl
        | some o => rw [(e3.trans e4) _ _ q] at hx4; cases hx4
      have e8 : Same H1 H8 := but_same b8 ((e3.trans e4).trans e57) hx1
      refine c_nil ⟨sz_of (by simp), fun q hq => c_nil ?_⟩
      have e9 := same_new (o := .tup [.str nm, .ref te, v']) hq
      have hf9 := (e8.trans e9) _ _ hf1
      have hlacc : acc.length ≤ 10 := by
        rw [dpa_length hacc, List.length_map, hlb.length, List.length_take]; omega
      refine ⟨f, acc, _, rfl, rfl, hf9, sz_lt (by omega), ?_⟩
      have e19 := e1.trans (e8.trans e9)
      have hfn : H f = none := hf
      have bt : But (fun b => b = f) (upd H8 q (.tup [.str nm, .ref te, v'])) (upd (upd H8 q (.tup [.str nm, .ref te, v'])) f (.lst (acc ++ [.ref q]))) := But.mut rfl
      have mf : Mut (upd H8 q (.tup [.str nm, .ref te, v']) f) := by rw [hf9]; trivial
      have hde : Dp K (upd H8 q (.tup [.str nm, .ref te, v'])) (.ref q) (encR (nm, names, L)) := mk_er (SqT.of upd_same) (same_tup e19 hN) (dp_mono e9 hd)
      refine ⟨_, _, _, _, _, acc ++ [.ref q], bkA ++ [(nm, names, L)], rfl, but_same bt e19 hf, upd_same, ?_, ?_, ?_⟩
      · rw [List.map_append]
        exact dpa_snoc (but_dpa bt (mutS1 mf) (noLs_Rs _) (dpa_mono (e8.trans e9) hacc)) (but_dp bt (mutS1 mf) (noL_R _) hde)
      · rw [take_snoc hbi]
        exact hlb.snoc ⟨rfl, rfl, k', p', hl⟩
      · intro e he
        rw [take_snoc hbi] at he
        rcases List.mem_append.mp he with he | he
        · exact hsm e he
        · rw [List.mem_singleton.mp he]
          simpa [strip] using l
  · rintro σ H1 ⟨a2, a3, a4, a5, a6, acc, bkA, rfl, e1, hf1, hacc, hlb, hsm⟩
    have hfull : bk.take xs.length = bk := by rw [lx, List.take_length]
    rw [hfull] at hlb hsm
    dsimp only
    refine c_ret (c_cbL (c_cons (c_val (val_var rfl) (c_nil ⟨f, _, rfl, .inl ⟨SqL.of hf1, fun t ht => ?_⟩⟩))))
    have e2 := same_new (o := .tup acc) ht
    exact q1 hsm (.ref t) _ bkA (e1.trans e2) hlb (.tup (SqT.of upd_same) (dpa_mono e2 hacc))
end
end Wn
end
section
set_option Elab.async false
set_option linter.all false
set_option maxRecDepth 100000
set_option maxHeartbeats 4000000
namespace Wn
open PySem PySem.Spec PyProof.Rows L2
def spIsLaidP (K : PySem.W.Frag) (d : Nat) : Sp := fun vs H Q _ => ∃ (v : V) (p : Pts), vs = [v] ∧ Dp K H v (encP p) ∧ Laid ("home" : Str) p ∧ nst p ≤ d ∧ ∀ H', Same H H' → Q (.bl true) H'
def spIsLaid (K : PySem.W.Frag) (d : Nat) : Sp := fun vs H Q _ => ∃ (v : V) (bk : List Er), vs = [v] ∧ Dp K H v (encBk bk) ∧ bk.length ≤ 10 ∧ (∀ e ∈ bk, Laid ("home" : Str) e.2.2 ∧ nst e.2.2 ≤ d) ∧ ∀ H', Same H H' → Q (.bl true) H'
def spBentIn (K : PySem.W.Frag) (d : Nat) : Sp := fun vs H Q _ => ∃ (v : V) (p : Pts) (pl : Addr) (xs : List V) (due : Str), vs = [v, .ref pl, .str due] ∧ Dp K H v (encP p) ∧ SqT K H pl xs ∧ xs.length + d ≤ 200 ∧ Strt due p ∧ nst p ≤ d ∧ ∀ H', Same H H' → Q .non H'
def spBentAt (K : PySem.W.Frag) (d : Nat) : Sp := fun vs H Q _ => ∃ (v : V) (bk : List Er), vs = [v] ∧ Dp K H v (encBk bk) ∧ bk.length ≤ 10 ∧ d ≤ 100 ∧ (∀ e ∈ bk, Strt ("home" : Str) e.2.2 ∧ nst e.2.2 ≤ d) ∧ ∀ H', Same H H' → Q .non H'
def spPartBack (K : PySem.W.Frag) (d : Nat) : Sp := fun vs H Q _ => ∃ (v : V) (p : Pts), vs = [v] ∧ Dp K H v (encP p) ∧ nst p ≤ d ∧ ∀ v' H', Same H H' → Dp K H' v' (encB (back p)) → Q v' H'
abbrev EB := Str × List Str × Bs
def encRB (e : EB) : PyData := encE e.1 e.2.1 (encB e.2.2)
def encBB (l : List EB) : PyData := .tuple (l.map encRB)
def backBk (l : List Er) : List EB := l.map fun e => (e.1, e.2.1, back e.2.2)
def spBack (K : PySem.W.Frag) (d : Nat) : Sp := fun vs H Q _ => ∃ (v : V) (bk : List Er), vs = [v] ∧ Dp K H v (encBk bk) ∧ bk.length ≤ 10 ∧ d ≤ 100 ∧ (∀ e ∈ bk, Strt ("home" : Str) e.2.2 ∧ nst e.2.2 ≤ d) ∧ ∀ v' H', Same H H' → Dp K H' v' (encBB (backBk bk)) → Q v' H'
theorem noL_RB (e : EB) : noL (encRB e) := by
  show noLs [.str e.1, .tuple (e.2.1.map .str), encB e.2.2]
  exact ⟨trivial, noLs_strs _, noL_B _, trivial⟩
theorem noLs_RBs : ∀ l : List EB, noLs (l.map encRB)
  | [] => trivial
  | e :: r => ⟨noL_RB e, noLs_RBs r⟩
theorem v_andV {σ : L2.St} {H : Hp} {ta tb : TE} {b : Bool} (h1 : Val ta σ H (.bl true)) (h2 : Val tb σ H (.bl b)) : Val (tAndV ta tb) σ H (.bl b) := fun Q q => h1 _ ⟨true, rfl, iteT (h2 Q q)⟩
theorem c_andV {σ : L2.St} {H : Hp} {ta tb : TE} {Q : VK} (h1 : Val ta σ H (.bl true)) (h2 : tb σ H Q) : tAndV ta tb σ H Q := h1 _ ⟨true, rfl, iteT h2⟩
theorem dpa_trues {K : PySem.W.Frag} {H : Hp} : ∀ {n : Nat} {acc : List V}, DpAll K H acc (List.replicate n (.bool true)) → acc = (List.replicate n true).map V.bl
  | 0, _, h => dpa_nil h
  | n + 1, _, h => by
    obtain ⟨x, r, rfl, h1, h2⟩ := dpa_cons h
    have e : x = .bl true := by cases h1; rfl
    rw [e, dpa_trues h2]; rfl
theorem noLs_trues : ∀ n : Nat, noLs (List.replicate n (.bool true))
  | 0 => trivial
  | n + 1 => ⟨trivial, noLs_trues n⟩
theorem all_trues : ∀ n : Nat, (List.replicate n true).all id = true
  | 0 => rfl
  | n + 1 => by rw [List.replicate_succ, List.all_cons, all_trues n]; rfl
theorem get_trues {n i : Nat} {d : PyData} (h : (List.replicate n (PyData.bool true))[i]? = some d) : d = .bool true := by
  rw [List.getElem?_replicate] at h
  by_cases e : i < n
  · rw [if_pos e] at h; cases h; rfl
  · rw [if_neg e] at h; cases h
theorem inner_nst {p q : Pts} (h : q ∈ innerT p) : nst q < nst p := by
  cases p with
  | give j s => cases h
  | ask f ss j => cases h
  | st tl x s T => rw [List.mem_singleton.mp h]; simp only [nst]; omega
  | ite s T U =>
    simp only [innerT, List.mem_cons, List.not_mem_nil, or_false] at h
    rcases h with rfl | rfl <;> simp only [nst] <;> omega
  | post j x T U =>
    simp only [innerT, List.mem_cons, List.not_mem_nil, or_false] at h
    rcases h with rfl | rfl <;> simp only [nst] <;> omega
theorem g3_mono {K : PySem.W.Frag} {i j k : Nat} (x : V) (σ : L2.St) (H : Hp) (P R : L2.St → Hp → Prop) (m : ∀ σ H, P σ H → R σ H) (h : gTup K 3 (gCons (gName i) (gCons (gName j) (gCons (gName k) gNil))) x σ H P) : gTup K 3 (gCons (gName i) (gCons (gName j) (gCons (gName k) gNil))) x σ H R := by
  obtain ⟨a, xs, e1, e2, e3, v1, r1, e4, v2, r2, e5, v3, r3, e6, e7, q⟩ := h
  exact ⟨a, xs, e1, e2, e3, v1, r1, e4, v2, r2, e5, v3, r3, e6, e7, m _ _ q⟩
/-- the i-th of what is inside -/
theorem in_get {K : PySem.W.Frag} {H : Hp} {ys : List V} {ps : List Pts} {i : Nat} {x : V} (h : DpAll K H ys (ps.map encP)) (hx : ys[i]? = some x) : ∃ q, ps[i]? = some q ∧ Dp K H x (encP q) := by
  have hi : i < ps.length := by
    have z := (List.getElem?_eq_some_iff.mp hx).1
    rw [dpa_length h, List.length_map] at z
    exact z
  have hpi : ps[i]? = some ps[i] := List.getElem?_eq_getElem hi
  obtain ⟨x2, z1, z2⟩ := dpa_get h (d := encP ps[i]) (i := i) (by rw [List.getElem?_map, hpi]; rfl)
  rw [hx] at z1
  cases z1
  exact ⟨_, hpi, z2⟩
theorem er_get {K : PySem.W.Frag} {H : Hp} {xs : List V} {bk : List Er} {i : Nat} {x : V} (h : DpAll K H xs (bk.map encR)) (hx : xs[i]? = some x) : ∃ e, bk[i]? = some e ∧ Dp K H x (encR e) := by
  have hi : i < bk.length := by
    have z := (List.getElem?_eq_some_iff.mp hx).1
    rw [dpa_length h, List.length_map] at z
    exact z
  have hpi : bk[i]? = some bk[i] := List.getElem?_eq_getElem hi
  obtain ⟨x2, z1, z2⟩ := dpa_get h (d := encR bk[i]) (i := i) (by rw [List.getElem?_map, hpi]; rfl)
  rw [hx] at z1
  cases z1
  exact ⟨_, hpi, z2⟩
section
variable {P : Program} {w : World} {K : PySem.W.Frag} {mg : Str → Option Value} {base : Heap} {ad : Nat → Addr} {fd : Nat → FuncData} {cL cT cN cB : Addr}
theorem ok_is_laid_part (T : Tx K mg ad fd cL cT cN cB) : ∀ d, FnOk P w K mg base CX0 (d + 1) (ad 9) (fd 9) ["part"] (spIsLaidP K d)
  | 0 => none_left fun vs H Q E h => by
    obtain ⟨v, p, _, _, _, h, _⟩ := h
    have := nst_pos p
    omega
  | d + 1 => by
    have G_is_laid_part := ok_is_laid_part T d
    have G_inner_turned := ok_inner_turned (P := P) (w := w) (base := base) T
    refine T.F_is_laid_part.ok sc_is_laid_part (fun vs H Q E h => ?_) (fun cdv A outer s H vs Q E hr h => ?_)
    · obtain ⟨v, p, rfl, _⟩ := h
      rfl
    obtain ⟨v, p, rfl, hv, hl, hn, q⟩ := h
    obtain ⟨tH, c_HOME⟩ := T.c_HOME
    refine ⟨_, (pss_cons (ps_if (pt_cmpR op_eq (pe_ix ix_tup (pv 0) pe_int (fun _ _ => rfl)) pe_str (nomark _)) (pss_one (ps_ret (pe_cmpR op_eq (pe_ix ix_tup (pv 0) pe_int (fun _ _ => rfl)) (pe_glob (v := .str "home") rfl c_HOME ⟨_, rfl⟩) (nomark _)))) pss_nil)
    (pss_cons (ps_if (pt_cmpR op_eq (pe_ix ix_tup (pv 0) pe_int (fun _ _ => rfl)) pe_str (nomark _)) (pss_one (ps_ret (pe_cmpR op_eq (pe_ix ix_tup (pv 0) pe_int (fun _ _ => rfl)) (pe_glob (v := .str "home") rfl c_HOME ⟨_, rfl⟩) (nomark _)))) pss_nil)
    (pss_cons (ps_if (pt_cmpR op_eq (pe_ix ix_tup (pv 0) pe_int (fun _ _ => rfl)) pe_str (nomark _)) (pss_one (ps_ret (pe_and (pe_cmpR op_eq (pe_ix ix_tup (pe_ix ix_tup (pv 0) pe_int (fun _ _ => rfl)) pe_int (fun _ _ => rfl)) pe_str (nomark _)) (pe_and (pe_cmpR op_eq (pe_ix ix_tup (pe_ix ix_tup (pv 0) pe_int (fun _ _ => rfl)) pe_int (fun _ _ => rfl)) (pe_ix ix_tup (pv 0) pe_int (fun _ _ => rfl)) (nomark _)) (pe_one (pe_call G_is_laid_part (hr.mono (by first | decide | omega)) (by rfl) T.m_is_laid_part T.F_is_laid_part.kp (b_is_laid_part T) .nil pass0 (pa_cons (pe_ix ix_tup (pv 0) pe_int (fun _ _ => rfl)) pa_nil))))))) pss_nil)
    (pss_one (ps_ret (pe_callB (id := "all") (cr_all rfl) (by rfl) T.z_all (by decide +kernel) (pa_cons (pe_lc (own := [("one", 1)]) (by rfl) sc_is_laid_part.nd (pi_tup (pe_call G_inner_turned (hr.mono (by first | decide | omega)) (by rfl) T.m_inner_turned T.F_inner_turned.kp (b_inner_turned T) .nil pass0 (pa_cons (pv 0) pa_nil))) (blkOk_by (own := [("one", 1)]) (N := ["part", "one"]) (sc := defScope s_is_laid_part) (by decide +kernel)) (fun _ _ _ _ _ => (pg_name (i := 1) sc_is_laid_part.nd rfl (Or.inl rfl))) (fun _ _ _ _ _ => pts_nil) (fun _ _ _ _ _ => (pe_call G_is_laid_part (hr.mono (by first | decide | omega)) (by rfl) T.m_is_laid_part T.F_is_laid_part.kp (b_is_laid_part T) .nil pass0 (pa_cons (pv 1) pa_nil)))) pa_nil))))))), ?_⟩
    cases hl with
    | give =>
      obtain ⟨a, x, rfl, hS, hx⟩ := pp_give hv
      refine st_seq (st_yes (a_eq (v_ixT (val_var rfl) val_c hS rfl) val_c rfl (by decide +kernel)) ?_)
      exact st_ret (v_is (v_eq (v_ixT (val_var rfl) val_c hS rfl) val_c rfl) (by decide +kernel)) (q H (Same.refl H))
    | ask =>
      obtain ⟨a, t, xs, rfl, hS, ht, hx⟩ := pp_ask hv
      refine sq_no (a_eq (v_ixT (val_var rfl) val_c hS rfl) val_c rfl (by decide +kernel)) ?_
      refine st_seq (st_yes (a_eq (v_ixT (val_var rfl) val_c hS rfl) val_c rfl (by decide +kernel)) ?_)
      exact st_ret (v_is (v_eq (v_ixT (val_var rfl) val_c hS rfl) val_c rfl) (by decide +kernel)) (q H (Same.refl H))
    | @post j x T1 f ss hT =>
      obtain ⟨a, y, z, rfl, hS, hy, hz⟩ := pp_post hv
      obtain ⟨a2, t, xs, rfl, hS2, ht, hx⟩ := pp_ask hz
      refine sq_no (a_eq (v_ixT (val_var rfl) val_c hS rfl) val_c rfl (by decide +kernel)) ?_
      refine sq_no (a_eq (v_ixT (val_var rfl) val_c hS rfl) val_c rfl (by decide +kernel)) ?_
      refine st_seq (st_yes (a_eq (v_ixT (val_var rfl) val_c hS rfl) val_c rfl (by decide +kernel)) ?_)
      refine c_ret (c_andV (v_is (v_eq (v_ixT (v_ixT (val_var rfl) val_c hS rfl) val_c hS2 rfl) val_c rfl) (by decide +kernel)) (c_andV (v_is (v_eq (v_ixT (v_ixT (val_var rfl) val_c hS rfl) val_c hS2 rfl) (v_ixT (val_var rfl) val_c hS rfl) rfl) (by rw [decide_eq_true rfl])) ?_))
      refine c_call (va_cons (v_ixT (val_var rfl) val_c hS rfl) va_nil) ⟨y, T1, rfl, hy, hT, ?_, q⟩
      simp only [nst] at hn
      omega
    | @st tl x s T1 hT =>
      obtain ⟨a, y, z, rfl, hS, hy, hz⟩ := pp_st hv
      refine sq_no (a_eq (v_ixT (val_var rfl) val_c hS rfl) val_c rfl (kwS_ne (by decide +kernel) (by decide +kernel))) ?_
      refine sq_no (a_eq (v_ixT (val_var rfl) val_c hS rfl) val_c rfl (kwS_ne (by decide +kernel) (by decide +kernel))) ?_
      refine sq_no (a_eq (v_ixT (val_var rfl) val_c hS rfl) val_c rfl (kwS_ne (by decide +kernel) (by decide +kernel))) ?_
      refine c_ret (c_cbL (c_cons (c_callL (c_cons (c_val (val_var rfl) (c_nil ⟨_, _, rfl, hv, fun p1 H1 ys e1 h1 hy1 => ?_⟩))))))
      refine ⟨p1, rfl, ⟨_, h1⟩, fun D hD => ?_⟩
      have ly : ys.length = 1 := by rw [dpa_length hy1]; rfl
      refine lc_mapT hD h1 (List.replicate 1 (.bool true)) (by rw [ly]; rfl) (noLs_trues _) (by omega) (fun i x' d' H' R' hxi hdi e3 r => ?_) (fun H3 acc e3 hD3 hacc => ?_) (fun x σ H P R m h => m _ _ h)
      · obtain ⟨q1, z1, z2⟩ := in_get hy1 hxi
        cases get_trues hdi
        have hq : q1 = T1 := by
          have := List.mem_of_getElem? z1
          simpa [innerT] using this
        subst hq
        refine ⟨rfl, c_call (va_cons (val_var rfl) va_nil) ⟨x', q1, rfl, dp_mono e3 z2, hT, ?_, fun H' e4 => r _ _ e4 (.bl true)⟩⟩
        simp only [nst] at hn
        omega
      · rw [dpa_trues hacc] at hD3
        exact c_nil ⟨D, _, rfl, SqL.of hD3, by rw [all_trues]; exact q _ (e1.trans e3)⟩
    | @ite s T1 U hT hU =>
      obtain ⟨a, x, y, z, rfl, hS, hx, hy, hz⟩ := pp_ite hv
      refine sq_no (a_eq (v_ixT (val_var rfl) val_c hS rfl) val_c rfl (by decide +kernel)) ?_
      refine sq_no (a_eq (v_ixT (val_var rfl) val_c hS rfl) val_c rfl (by decide +kernel)) ?_
      refine sq_no (a_eq (v_ixT (val_var rfl) val_c hS rfl) val_c rfl (by decide +kernel)) ?_
      refine c_ret (c_cbL (c_cons (c_callL (c_cons (c_val (val_var rfl) (c_nil ⟨_, _, rfl, hv, fun p1 H1 ys e1 h1 hy1 => ?_⟩))))))
      refine ⟨p1, rfl, ⟨_, h1⟩, fun D hD => ?_⟩
      have ly : ys.length = 2 := by rw [dpa_length hy1]; rfl
      refine lc_mapT hD h1 (List.replicate 2 (.bool true)) (by rw [ly]; rfl) (noLs_trues _) (by omega) (fun i x' d' H' R' hxi hdi e3 r => ?_) (fun H3 acc e3 hD3 hacc => ?_) (fun x σ H P R m h => m _ _ h)
      · obtain ⟨q1, z1, z2⟩ := in_get hy1 hxi
        cases get_trues hdi
        have hm := List.mem_of_getElem? z1
        have hlt := inner_nst hm
        have hq : Laid ("home" : Str) q1 := by
          simp only [innerT, List.mem_cons, List.not_mem_nil, or_false] at hm
          rcases hm with rfl | rfl
          · exact hT
          · exact hU
        exact ⟨rfl, c_call (va_cons (val_var rfl) va_nil) ⟨x', q1, rfl, dp_mono e3 z2, hq, by omega, fun H' e4 => r _ _ e4 (.bl true)⟩⟩
      · rw [dpa_trues hacc] at hD3
        exact c_nil ⟨D, _, rfl, SqL.of hD3, by rw [all_trues]; exact q _ (e1.trans e3)⟩
theorem ok_is_laid (T : Tx K mg ad fd cL cT cN cB) (d : Nat) : FnOk P w K mg base CX0 (d + 2) (ad 10) (fd 10) ["turned_book"] (spIsLaid K d) := by
  have G_is_laid_part := ok_is_laid_part (P := P) (w := w) (base := base) T d
  refine T.F_is_laid.ok sc_is_laid (fun vs H Q E h => ?_) (fun cdv A outer s H vs Q E hr h => ?_)
  · obtain ⟨v, bk, rfl, _⟩ := h
    rfl
  obtain ⟨v, bk, rfl, hv, hlen, hbk, q⟩ := h
  obtain ⟨a, xs, rfl, hS, hx⟩ := dp_tup hv
  have lx : xs.length = bk.length := by rw [dpa_length hx, List.length_map]
  refine ⟨_, (pss_one (ps_ret (pe_callB (id := "all") (cr_all rfl) (by rfl) T.z_all (by decide +kernel) (pa_cons (pe_lc (own := [("name", 1), ("names", 2), ("body", 3)]) (by rfl) sc_is_laid.nd (pi_tup (pv 0)) (blkOk_by (own := [("name", 1), ("names", 2), ("body", 3)]) (N := ["turned_book", "name", "names", "body"]) (sc := defScope s_is_laid) (by decide +kernel)) (fun _ _ _ _ _ => (pg_tupQ (K := K) (n := 3) rfl rfl (pgs_cons (pg_name (i := 1) sc_is_laid.nd rfl (Or.inl rfl)) (pgs_cons (pg_name (i := 2) sc_is_laid.nd rfl (Or.inl rfl)) (pgs_cons (pg_name (i := 3) sc_is_laid.nd rfl (Or.inl rfl)) pgs_nil))))) (fun _ _ _ _ _ => pts_nil) (fun _ _ _ _ _ => (pe_call G_is_laid_part (hr.mono (by first | decide | omega)) (by rfl) T.m_is_laid_part T.F_is_laid_part.kp (b_is_laid_part T) .nil pass0 (pa_cons (pv 3) pa_nil)))) pa_nil)))), ?_⟩
  refine c_ret (c_cbL (c_cons ?_))
  refine ⟨_, rfl, a, rfl, ⟨_, hS⟩, fun D hD => ?_⟩
  refine lc_mapT hD hS (List.replicate bk.length (.bool true)) (by rw [List.length_replicate, lx]) (noLs_trues _) (by omega) (fun i x' d' H' R' hxi hdi e3 r => ?_) (fun H3 acc e3 hD3 hacc => ?_) g3_mono
  · obtain ⟨e, z1, z2⟩ := er_get hx hxi
    cases get_trues hdi
    have hm := List.mem_of_getElem? z1
    obtain ⟨ae, te, ze, rfl, hE, hN, hB⟩ := pp_er z2
    obtain ⟨h1, h2⟩ := hbk e hm
    refine ⟨ae, _, rfl, same_tup e3 hE, rfl, _, _, rfl, _, _, rfl, _, _, rfl, rfl, rfl, ?_⟩
    exact c_call (va_cons (val_var rfl) va_nil) ⟨ze, e.2.2, rfl, dp_mono e3 hB, h1, h2, fun H' e4 => r _ _ e4 (.bl true)⟩
  · rw [dpa_trues hacc] at hD3
    exact c_nil ⟨D, _, rfl, SqL.of hD3, by rw [all_trues]; exact q _ e3⟩
end
end Wn
end
section
set_option Elab.async false
set_option linter.all false
set_option maxRecDepth 100000
set_option maxHeartbeats 4000000
namespace Wn
open PySem PySem.Spec PyProof.Rows L2
theorem kwS_post {tl : Bool} : decide (V.str (kwS tl) = V.str "post") = false := kwS_ne (by decide +kernel) (by decide +kernel)
theorem bent_head {K : PySem.W.Frag} {H : Hp} {v : V} {p : Pts} {due : Str} (h : Dp K H v (encP p)) (np : handP p = none) (hs : Strt due p) : ∃ a tg rest, v = .ref a ∧ SqT K H a (.str tg :: rest) ∧ decide (V.str tg = V.str "give") = false ∧ decide (V.str tg = V.str "ask") = false ∧
    ∀ (i : Nat) T, (innerT p)[i]? = some T → ∃ due', Strt due' T ∧ ((decide (V.str tg = V.str "post") = true ∧ i = 1 ∧ rest[0]? = some (.str due')) ∨ (due' = due ∧ (decide (V.str tg = V.str "post") = false ∨ i ≠ 1))) := by
  cases p with
  | give j s => cases np
  | ask f ss j => cases np
  | st tl x s U =>
    obtain ⟨a, y, z, rfl, hS, hy, hz⟩ := pp_st h
    refine ⟨a, _, _, rfl, hS, kwS_ne (by decide +kernel) (by decide +kernel), kwS_ne (by decide +kernel) (by decide +kernel), fun i T q => ⟨due, ?_, .inr ⟨rfl, .inl kwS_post⟩⟩⟩
    have e := List.mem_of_getElem? q
    rw [List.mem_singleton.mp e]; exact hs
  | ite s T U =>
    obtain ⟨a, x, y, z, rfl, hS, hx, hy, hz⟩ := pp_ite h
    refine ⟨a, _, _, rfl, hS, by decide +kernel, by decide +kernel, fun i T' q => ⟨due, ?_, .inr ⟨rfl, .inl (by decide +kernel)⟩⟩⟩
    have e := List.mem_of_getElem? q
    simp only [innerT, List.mem_cons, List.not_mem_nil, or_false] at e
    rcases e with rfl | rfl
    · exact hs.1
    · exact hs.2
  | post j x T U =>
    obtain ⟨a, y, z, rfl, hS, hy, hz⟩ := pp_post h
    refine ⟨a, _, _, rfl, hS, by decide +kernel, by decide +kernel, fun i T' q => ?_⟩
    match i, q with
    | 0, q => cases q; exact ⟨due, hs.1, .inr ⟨rfl, .inr (by decide)⟩⟩
    | 1, q => cases q; exact ⟨j, hs.2, .inl ⟨by decide +kernel, rfl, rfl⟩⟩
    | i + 2, q => simp [innerT] at q
section
variable {P : Program} {w : World} {K : PySem.W.Frag} {mg : Str → Option Value} {base : Heap} {ad : Nat → Addr} {fd : Nat → FuncData} {cL cT cN cB : Addr}
theorem ok_bent_in (T : Tx K mg ad fd cL cT cN cB) : ∀ d, FnOk P w K mg base CX0 (d + 1) (ad 20) (fd 20) ["part", "place", "due"] (spBentIn K d)
  | 0 => none_left fun vs H Q E h => by
    obtain ⟨v, p, _, _, _, _, _, _, _, _, h, _⟩ := h
    have := nst_pos p
    omega
  | d + 1 => by
    have G_bent_in := ok_bent_in T d
    have G_inner_turned := ok_inner_turned (P := P) (w := w) (base := base) T
    have G_inner_simple := ok_inner_simple (P := P) (w := w) (base := base) T
    have G_hand_of := ok_hand_of (P := P) (w := w) (base := base) T
    refine T.F_bent_in.ok sc_bent_in (fun vs H Q E h => ?_) (fun cdv A outer s H vs Q E hr h => ?_)
    · obtain ⟨v, p, pl, xs, due, rfl, _⟩ := h
      rfl
    obtain ⟨v, p, pl, xs, due, rfl, hv, hp, hl, hs, hn, q⟩ := h
    refine ⟨_, (pss_cons (ps_if (PW.pt (pw_or (pt_cmpR op_eq (pe_ix ix_tup (pv 0) pe_int (fun _ _ => rfl)) pe_str (nomark _)) (pw_or1 (pt_cmpR op_eq (pe_ix ix_tup (pv 0) pe_int (fun _ _ => rfl)) pe_str (nomark _))))) (pss_one (ps_ret (pe_ifExp (pt_cmpR op_eq (pe_call G_hand_of (hr.mono (by first | decide | omega)) (by rfl) T.m_hand_of T.F_hand_of.kp (b_hand_of T) .nil pass0 (pa_cons (pv 0) pa_nil)) (pv 2) (nomark _)) pe_non (pv 1)))) pss_nil)
    (pss_cons (ps_set (i := 3) sc_bent_in.nd rfl (Or.inl rfl) (pe_callB (id := "len") call_len_seq (by rfl) T.z_len (by decide +kernel) (pa_cons (pe_call G_inner_simple (hr.mono (by first | decide | omega)) (by rfl) T.m_inner_simple T.F_inner_simple.kp (b_inner_simple T) .nil pass0 (pa_cons (pv 0) pa_nil)) pa_nil)))
    (pss_cons (ps_for PassesOwn.never rfl (pi_enumT (by rfl) T.z_enumerate (pa_cons (pe_call G_inner_turned (hr.mono (by first | decide | omega)) (by rfl) T.m_inner_turned T.F_inner_turned.kp (b_inner_turned T) .nil pass0 (pa_cons (pv 0) pa_nil)) pa_nil)) (pg_tup (by rfl) (pgs_cons (pg_name (i := 4) sc_bent_in.nd rfl (Or.inl rfl)) (pgs_cons (pg_name (i := 5) sc_bent_in.nd rfl (Or.inl rfl)) pgs_nil)))
    (pss_cons (ps_set (i := 6) sc_bent_in.nd rfl (Or.inl rfl) (pe_ifExp (PW.pt (pw_and (pt_cmpR op_eq (pe_ix ix_tup (pv 0) pe_int (fun _ _ => rfl)) pe_str (nomark _)) (pw_and1 (pt_cmpR op_eq (pv 4) pe_int (nomark _))))) (pe_ix ix_tup (pv 0) pe_int (fun _ _ => rfl)) (pv 2)))
    (pss_cons (ps_set (i := 7) sc_bent_in.nd rfl (Or.inl rfl) (pe_call G_bent_in (hr.mono (by first | decide | omega)) (by rfl) T.m_bent_in T.F_bent_in.kp (b_bent_in T) .nil pass0 (pa_cons (pv 5) (pa_cons (pe_op op_catA (pv 1) (pe_tup (pa_cons (pe_op op_add (pv 3) (pv 4)) pa_nil))) (pa_cons (pv 6) pa_nil)))))
    (pss_one (ps_if (pt_cmpR op_notN (pv 7) pe_non (nomark _)) pss_never pss_nil)))))
    (pss_one (ps_ret pe_non))))), ?_⟩
    cases np : handP p with
    | some j =>
      have hj : j = due := by
        cases p with
        | give j' s => cases np; exact hs
        | ask f ss j' => cases np; exact hs
        | st _ _ _ _ => cases np
        | ite _ _ _ => cases np
        | post _ _ _ _ => cases np
      cases p with
      | give j' s =>
        obtain ⟨a, x, rfl, hS, hx⟩ := pp_give hv
        refine st_seq (st_yes (a_or (b1 := true) (b2 := true) (a_eq (v_ixT (val_var rfl) val_c hS rfl) val_c rfl (by decide +kernel)) (fun z => by cases z)) ?_)
        cases np
        refine c_ret (v_ifT (a_eq (x := .str due) (fun Q' z => c_call (va_cons (val_var rfl) va_nil) ⟨_, _, _, rfl, hv, rfl, by rw [hj]; exact z⟩) (val_var rfl) rfl (by simp)) val_c _ (q H (Same.refl H)))
      | ask f ss j' =>
        obtain ⟨a, t, xs, rfl, hS, ht, hx⟩ := pp_ask hv
        refine st_seq (st_yes (a_or (b1 := false) (b2 := true) (a_eq (v_ixT (val_var rfl) val_c hS rfl) val_c rfl (by decide +kernel)) (fun _ => a_eq (v_ixT (val_var rfl) val_c hS rfl) val_c rfl (by decide +kernel))) ?_)
        cases np
        refine c_ret (v_ifT (a_eq (x := .str due) (fun Q' z => c_call (va_cons (val_var rfl) va_nil) ⟨_, _, _, rfl, hv, rfl, by rw [hj]; exact z⟩) (val_var rfl) rfl (by simp)) val_c _ (q H (Same.refl H)))
      | st _ _ _ _ => cases np
      | ite _ _ _ => cases np
      | post _ _ _ _ => cases np
    | none =>
      obtain ⟨a, tg, rest, rfl, hS, n1, n2, hin⟩ := bent_head hv np hs
      refine sq_no (a_or (b1 := false) (b2 := false) (a_eq (v_ixT (val_var rfl) val_c hS (atI_nat (j := 0) rfl)) val_c rfl n1) (fun _ => a_eq (v_ixT (val_var rfl) val_c hS (atI_nat (j := 0) rfl)) val_c rfl n2)) ?_
      refine sq_setC (c_cbL (c_cons (c_callL (c_cons (c_val (val_var rfl) (c_nil ⟨_, _, rfl, hv, fun p0 H0 zs e0 h0 hz0 => ?_⟩))))))
      refine c_nil ⟨p0, zs, rfl, .inr h0, ?_⟩
      refine st_seq (c_callL (c_cons (c_val (val_var rfl) (c_nil ⟨_, p, rfl, dp_mono e0 hv, fun p1 H1 ys e1 h1 hy => ?_⟩))))
      have e01 := e0.trans e1
      refine c_nil ⟨p1, ys, rfl, h1, for_enumT (xs := ys) (fun i σ H' => ∃ a4 a5 a6 a7, σ = [some (.ref a), some (.ref pl), some (.str due), some (.int zs.length), a4, a5, a6, a7] ∧ Same H1 H') ?_ ?_ ?_ ?_⟩
      · exact ⟨none, none, none, none, rfl, Same.refl _⟩
      · rintro i σ H' _ ⟨_, _, _, _, _, e⟩
        exact same_tup e h1
      · rintro i x σ H' p' hx ⟨a4, a5, a6, a7, rfl, e2⟩ hp'
        obtain ⟨t, ht, dt⟩ := in_get hy hx
        obtain ⟨due', hsd, hdue⟩ := hin i t ht
        refine ⟨p', _, rfl, SqT.of upd_same, rfl, _, _, rfl, _, _, rfl, rfl, ?_⟩
        have e3 := e2.trans (same_new (o := .tup [.int (i : Nat), x]) hp')
        generalize upd H' p' (.tup [.int (i : Nat), x]) = H2 at *
        have e03 := e01.trans e3
        have hS3 := same_tup e03 hS
        have hlt := inner_nst (List.mem_of_getElem? ht)
        refine sq_set (v := .str due') ?_ ?_
        · rcases hdue with ⟨g1, g2, g3⟩ | ⟨g1, g2⟩
          · refine v_ifT (a_and (b1 := true) (b2 := true) (a_eq (v_ixT (val_var rfl) val_c hS3 (atI_nat (j := 0) rfl)) val_c rfl g1) (fun _ => a_eq (val_var rfl) val_c rfl (by rw [g2]; decide +kernel))) (v_ixT (val_var rfl) val_c hS3 (atI_nat (j := 1) g3))
          · rw [g1]
            cases g3 : decide (V.str tg = V.str "post") with
            | false => exact v_ifF (a_and (b1 := false) (b2 := false) (a_eq (v_ixT (val_var rfl) val_c hS3 (atI_nat (j := 0) rfl)) val_c rfl g3) (fun z => by cases z)) (val_var rfl)
            | true =>
              have g4 := g2.resolve_left (by rw [g3]; simp)
              exact v_ifF (a_and (b1 := true) (b2 := false) (a_eq (v_ixT (val_var rfl) val_c hS3 (atI_nat (j := 0) rfl)) val_c rfl g3) (fun _ => a_eq (val_var rfl) val_c rfl (decide_eq_false (by intro z; injection z with z; omega)))) (val_var rfl)
        refine sq_setC (c_callL (c_cons (c_val (val_var rfl) (c_cons (c_opL (c_val (val_var rfl) (c_tupV (va_cons (v_I0 (val_var rfl) (val_var rfl)) va_nil) (by simp) fun q1 hq1 => ?_)))))))
        have e5 := same_new (o := .tup [V.int ((zs.length : Int) + (i : Int))]) hq1
        refine r_catA (same_tup (e03.trans e5) hp) (SqT.of upd_same) (by simp; omega) fun p2 H4 e6 h2 => c_cons (c_val (val_var rfl) (c_nil ?_))
        have e36 := e3.trans (e5.trans e6)
        refine ⟨x, t, p2, _, due', rfl, dp_mono e36 dt, h2, by simp; omega, hsd, by omega, fun H5 e7 => ?_⟩
        refine st_no (a_notN (val_var rfl) (by decide +kernel)) ?_
        exact ⟨_, _, _, _, rfl, e36.trans e7⟩
      · rintro σ H' ⟨_, _, _, _, rfl, e2⟩
        dsimp only
        exact st_ret val_c (q _ (e01.trans e2))
theorem ok_bent_at (T : Tx K mg ad fd cL cT cN cB) (d : Nat) : FnOk P w K mg base CX0 (d + 2) (ad 21) (fd 21) ["turned_book"] (spBentAt K d) := by
  have G_bent_in := ok_bent_in (P := P) (w := w) (base := base) T d
  refine T.F_bent_at.ok sc_bent_at (fun vs H Q E h => ?_) (fun cdv A outer s H vs Q E hr h => ?_)
  · obtain ⟨v, bk, rfl, _⟩ := h
    rfl
  obtain ⟨v, bk, rfl, hv, hlen, hd, hbk, q⟩ := h
  obtain ⟨tH, c_HOME⟩ := T.c_HOME
  obtain ⟨a, xs, rfl, hS, hx⟩ := dp_tup hv
  refine ⟨_, (pss_cons (ps_for PassesOwn.never rfl (pi_tup (pv 0)) (pg_tup (by rfl) (pgs_cons (pg_name (i := 1) sc_bent_at.nd rfl (Or.inl rfl)) (pgs_cons (pg_name (i := 2) sc_bent_at.nd rfl (Or.inl rfl)) (pgs_cons (pg_name (i := 3) sc_bent_at.nd rfl (Or.inl rfl)) pgs_nil))))
    (pss_cons (ps_set (i := 4) sc_bent_at.nd rfl (Or.inl rfl) (pe_call G_bent_in (hr.mono (by first | decide | omega)) (by rfl) T.m_bent_in T.F_bent_in.kp (b_bent_in T) .nil pass0 (pa_cons (pv 3) (pa_cons (pe_tup (pa_cons (pv 1) pa_nil)) (pa_cons (pe_glob (v := .str "home") rfl c_HOME ⟨_, rfl⟩) pa_nil)))))
    (pss_one (ps_if (pt_cmpR op_notN (pv 4) pe_non (nomark _)) pss_never pss_nil))))
    (pss_one (ps_ret pe_non))), ?_⟩
  refine st_seq ⟨_, rfl, a, rfl, ⟨xs, hS⟩, for_tup (xs := xs) (fun i σ H' => ∃ a1 a2 a3 a4, σ = [some (.ref a), a1, a2, a3, a4] ∧ Same H H') ?_ ?_ ?_ ?_⟩
  · exact ⟨none, none, none, none, rfl, Same.refl _⟩
  · rintro i σ H' _ ⟨_, _, _, _, _, e⟩
    exact same_tup e hS
  · rintro i x σ H1 hxi ⟨a1, a2, a3, a4, rfl, e1⟩
    obtain ⟨e, z1, z2⟩ := er_get hx hxi
    have hm := List.mem_of_getElem? z1
    obtain ⟨ae, te, ze, rfl, hE, hN, hB⟩ := pp_er z2
    obtain ⟨h1, h2⟩ := hbk e hm
    refine ⟨ae, _, rfl, same_tup e1 hE, rfl, _, _, rfl, _, _, rfl, _, _, rfl, rfl, ?_⟩
    refine sq_setC (c_callL (c_cons (c_val (val_var rfl) (c_cons (c_tupV (va_cons (val_var rfl) va_nil) (by simp) fun q1 hq1 => c_cons (c_val val_c (c_nil ?_)))))))
    have e5 := same_new (o := .tup [V.str e.1]) hq1
    refine ⟨ze, e.2.2, q1, _, _, rfl, dp_mono (e1.trans e5) hB, SqT.of upd_same, by simp; omega, h1, h2, fun H5 e7 => ?_⟩
    refine st_no (a_notN (val_var rfl) (by decide +kernel)) ?_
    exact ⟨_, _, _, _, rfl, e1.trans (e5.trans e7)⟩
  · rintro σ H' ⟨_, _, _, _, rfl, e2⟩
    dsimp only
    exact st_ret val_c (q _ e2)
theorem ok_part_back (T : Tx K mg ad fd cL cT cN cB) : ∀ d, FnOk P w K mg base CX0 d (ad 22) (fd 22) ["part"] (spPartBack K d)
  | 0 => none_left fun vs H Q E h => by
    obtain ⟨v, p, _, _, h, _⟩ := h
    have := nst_pos p
    omega
  | d + 1 => by
    have G_part_back := ok_part_back T d
    refine T.F_part_back.ok sc_part_back (fun vs H Q E h => ?_) (fun cdv A outer s H vs Q E hr h => ?_)
    · obtain ⟨v, p, rfl, _⟩ := h
      rfl
    obtain ⟨v, p, rfl, hv, hn, q⟩ := h
    refine ⟨_, (pss_cons (ps_if (pt_cmpR op_eq (pe_ix ix_tup (pv 0) pe_int (fun _ _ => rfl)) pe_str (nomark _)) (pss_one (ps_ret (pe_ix ix_tup (pv 0) pe_int (fun _ _ => rfl)))) pss_nil)
    (pss_cons (ps_if (pt_cmpR op_eq (pe_ix ix_tup (pv 0) pe_int (fun _ _ => rfl)) pe_str (nomark _)) (pss_one (ps_ret (pe_slice sl_tupA (pv 0) po_none (po_some pe_int)))) pss_nil)
    (pss_cons (ps_if (pt_cmpR op_eq (pe_ix ix_tup (pv 0) pe_int (fun _ _ => rfl)) pe_str (nomark _)) (pss_one (ps_ret (pe_tup (pa_cons pe_str (pa_cons (pe_ix ix_tup (pv 0) pe_int (fun _ _ => rfl)) (pa_cons (pe_tup (pa_cons pe_str (pa_cons (pe_ix ix_tup (pv 0) pe_int (fun _ _ => rfl)) pa_nil))) (pa_cons (pe_call G_part_back (hr.mono (by first | decide | omega)) (by rfl) T.m_part_back T.F_part_back.kp (b_part_back T) .nil pass0 (pa_cons (pe_ix ix_tup (pv 0) pe_int (fun _ _ => rfl)) pa_nil)) pa_nil))))))) pss_nil)
    (pss_cons (ps_if (pt_cmpR op_eq (pe_ix ix_tup (pv 0) pe_int (fun _ _ => rfl)) pe_str (nomark _)) (pss_one (ps_ret (pe_op op_catA (pe_slice sl_tupA (pv 0) po_none (po_some pe_int)) (pe_tup (pa_cons (pe_call G_part_back (hr.mono (by first | decide | omega)) (by rfl) T.m_part_back T.F_part_back.kp (b_part_back T) .nil pass0 (pa_cons (pe_ix ix_tup (pv 0) pe_int (fun _ _ => rfl)) pa_nil)) pa_nil))))) pss_nil)
    (pss_cons (ps_if (pt_cmpR op_eq (pe_ix ix_tup (pv 0) pe_int (fun _ _ => rfl)) pe_str (nomark _)) (pss_one (ps_ret (pe_op op_catA (pe_slice sl_tupA (pv 0) po_none (po_some pe_int)) (pe_tup (pa_cons (pe_call G_part_back (hr.mono (by first | decide | omega)) (by rfl) T.m_part_back T.F_part_back.kp (b_part_back T) .nil pass0 (pa_cons (pe_ix ix_tup (pv 0) pe_int (fun _ _ => rfl)) pa_nil)) (pa_cons (pe_call G_part_back (hr.mono (by first | decide | omega)) (by rfl) T.m_part_back T.F_part_back.kp (b_part_back T) .nil pass0 (pa_cons (pe_ix ix_tup (pv 0) pe_int (fun _ _ => rfl)) pa_nil)) pa_nil)))))) pss_nil)
    (pss_one (ps_ret (pe_tup (pa_cons pe_str (pa_cons (pe_ix ix_tup (pv 0) pe_int (fun _ _ => rfl)) (pa_cons (pe_call G_part_back (hr.mono (by first | decide | omega)) (by rfl) T.m_part_back T.F_part_back.kp (b_part_back T) .nil pass0 (pa_cons (pe_ix ix_tup (pv 0) pe_int (fun _ _ => rfl)) pa_nil)) (pa_cons (pe_call G_part_back (hr.mono (by first | decide | omega)) (by rfl) T.m_part_back T.F_part_back.kp (b_part_back T) .nil pass0 (pa_cons (pe_ix ix_tup (pv 0) pe_int (fun _ _ => rfl)) pa_nil)) pa_nil)))))))))))), ?_⟩
    cases p with
    | give j s =>
      obtain ⟨a, x, rfl, hS, hx⟩ := pp_give hv
      refine st_seq (st_yes (a_eq (v_ixT (val_var rfl) val_c hS rfl) val_c rfl (by decide +kernel)) ?_)
      exact st_ret (v_ixT (val_var rfl) val_c hS rfl) (q x H (Same.refl H) (by show Dp K H x (encB (emb s)); rw [encB_emb]; exact hx))
    | ask f ss j =>
      obtain ⟨a, t, xs, rfl, hS, ht, hx⟩ := pp_ask hv
      refine sq_no (a_eq (v_ixT (val_var rfl) val_c hS rfl) val_c rfl (by decide +kernel)) ?_
      refine st_seq (st_yes (a_eq (v_ixT (val_var rfl) val_c hS rfl) val_c rfl (by decide +kernel)) ?_)
      refine c_ret (c_slA (val_var rfl) hS to_none (to_some val_c) (ys := [.str "ask", .str f, .ref t]) rfl fun p1 H1 e1 h1 => q _ _ e1 ?_)
      refine .tup h1 (.cons (.str _) (.cons (.str _) (.cons (.tup (same_tup e1 ht) ?_) .nil)))
      rw [encBs_emb]
      exact dpa_mono e1 hx
    | st tl x s U =>
      obtain ⟨a, y, z, rfl, hS, hy, hz⟩ := pp_st hv
      simp only [nst] at hn
      refine sq_no (a_eq (v_ixT (val_var rfl) val_c hS rfl) val_c rfl (kwS_ne (by decide +kernel) (by decide +kernel))) ?_
      refine sq_no (a_eq (v_ixT (val_var rfl) val_c hS rfl) val_c rfl (kwS_ne (by decide +kernel) (by decide +kernel))) ?_
      cases tl with
      | true =>
        refine st_seq (st_yes (a_eq (v_ixT (val_var rfl) val_c hS rfl) val_c rfl (by decide +kernel)) ?_)
        refine c_ret (c_tup' (c_cons (c_val val_c (c_cons (c_val (v_ixT (val_var rfl) val_c hS rfl) (c_cons (c_tupV (va_cons val_c (va_cons (v_ixT (val_var rfl) val_c hS rfl) va_nil)) (by simp) fun q1 hq1 => c_cons ?_)))))))
        have e1 := same_new (o := .tup [.str "tell", y]) hq1
        refine c_call (va_cons (v_ixT (val_var rfl) val_c (same_tup e1 hS) rfl) va_nil) ⟨z, U, rfl, dp_mono e1 hz, by omega, fun v' H' e2 hd => c_nil ⟨sz_of (by simp), fun q2 hq2 => ?_⟩⟩
        have e3 := same_new (o := .tup [.str "let", .str x, .ref q1, v']) hq2
        refine q _ _ (e1.trans (e2.trans e3)) (.tup (SqT.of upd_same) (.cons (.str _) (.cons (.str _) (.cons (dp_mono (e2.trans e3) (.tup (SqT.of upd_same) (.cons (.str _) (.cons ?_ .nil)))) (.cons (dp_mono e3 hd) .nil)))))
        rw [encB_emb]
        exact dp_mono e1 hy
      | false =>
        refine sq_no (a_eq (v_ixT (val_var rfl) val_c hS rfl) val_c rfl (by decide +kernel)) ?_
        refine st_seq (st_yes (a_eq (v_ixT (val_var rfl) val_c hS rfl) val_c rfl (by decide +kernel)) ?_)
        refine c_ret (c_opL (c_slA (val_var rfl) hS to_none (to_some val_c) (ys := [.str "let", .str x, y]) rfl fun p1 H1 e1 h1 => ?_))
        refine c_tup' (c_cons (c_call (va_cons (v_ixT (val_var rfl) val_c (same_tup e1 hS) rfl) va_nil) ⟨z, U, rfl, dp_mono e1 hz, by omega, fun v' H' e2 hd => c_nil ⟨sz_of (by simp), fun q2 hq2 => ?_⟩⟩))
        have e3 := same_new (o := .tup [v']) hq2
        refine r_catA (same_tup (e2.trans e3) h1) (SqT.of upd_same) (by simp) fun p3 H4 e4 h4 => q _ _ (e1.trans (e2.trans (e3.trans e4))) (.tup h4 (.cons (.str _) (.cons (.str _) (.cons ?_ (.cons (dp_mono (e3.trans e4) hd) .nil)))))
        show Dp K H4 y (encB (emb s))
        rw [encB_emb]
        exact dp_mono (e1.trans (e2.trans (e3.trans e4))) hy
    | ite s T1 U =>
      obtain ⟨a, x, y, z, rfl, hS, hx, hy, hz⟩ := pp_ite hv
      simp only [nst] at hn
      refine sq_no (a_eq (v_ixT (val_var rfl) val_c hS rfl) val_c rfl (by decide +kernel)) ?_
      refine sq_no (a_eq (v_ixT (val_var rfl) val_c hS rfl) val_c rfl (by decide +kernel)) ?_
      refine sq_no (a_eq (v_ixT (val_var rfl) val_c hS rfl) val_c rfl (by decide +kernel)) ?_
      refine sq_no (a_eq (v_ixT (val_var rfl) val_c hS rfl) val_c rfl (by decide +kernel)) ?_
      refine st_seq (st_yes (a_eq (v_ixT (val_var rfl) val_c hS rfl) val_c rfl (by decide +kernel)) ?_)
      refine c_ret (c_opL (c_slA (val_var rfl) hS to_none (to_some val_c) (ys := [.str "if", x]) rfl fun p1 H1 e1 h1 => ?_))
      refine c_tup' (c_cons (c_call (va_cons (v_ixT (val_var rfl) val_c (same_tup e1 hS) rfl) va_nil) ⟨y, T1, rfl, dp_mono e1 hy, by omega, fun v1 H2 e2 hd1 => c_cons ?_⟩))
      have e12 := e1.trans e2
      refine c_call (va_cons (v_ixT (val_var rfl) val_c (same_tup e12 hS) rfl) va_nil) ⟨z, U, rfl, dp_mono e12 hz, by omega, fun v2 H3 e3 hd2 => c_nil ⟨sz_of (by simp), fun q2 hq2 => ?_⟩⟩
      have e4 := same_new (o := .tup [v1, v2]) hq2
      have e34 := e3.trans e4
      refine r_catA (same_tup (e2.trans e34) h1) (SqT.of upd_same) (by simp) fun p3 H4 e5 h4 => q _ _ (e12.trans (e34.trans e5)) (.tup h4 (.cons (.str _) (.cons ?_ (.cons (dp_mono (e34.trans e5) hd1) (.cons (dp_mono (e4.trans e5) hd2) .nil)))))
      rw [encB_emb]
      exact dp_mono (e12.trans (e34.trans e5)) hx
    | post j x T1 U =>
      obtain ⟨a, y, z, rfl, hS, hy, hz⟩ := pp_post hv
      simp only [nst] at hn
      refine sq_no (a_eq (v_ixT (val_var rfl) val_c hS rfl) val_c rfl (by decide +kernel)) ?_
      refine sq_no (a_eq (v_ixT (val_var rfl) val_c hS rfl) val_c rfl (by decide +kernel)) ?_
      refine sq_no (a_eq (v_ixT (val_var rfl) val_c hS rfl) val_c rfl (by decide +kernel)) ?_
      refine sq_no (a_eq (v_ixT (val_var rfl) val_c hS rfl) val_c rfl (by decide +kernel)) ?_
      refine sq_no (a_eq (v_ixT (val_var rfl) val_c hS rfl) val_c rfl (by decide +kernel)) ?_
      refine c_ret (c_tup' (c_cons (c_val val_c (c_cons (c_val (v_ixT (val_var rfl) val_c hS rfl) (c_cons ?_))))))
      refine c_call (va_cons (v_ixT (val_var rfl) val_c hS rfl) va_nil) ⟨z, U, rfl, hz, by omega, fun v1 H1 e1 hd1 => c_cons ?_⟩
      refine c_call (va_cons (v_ixT (val_var rfl) val_c (same_tup e1 hS) rfl) va_nil) ⟨y, T1, rfl, dp_mono e1 hy, by omega, fun v2 H2 e2 hd2 => c_nil ⟨sz_of (by simp), fun q2 hq2 => ?_⟩⟩
      have e3 := same_new (o := .tup [.str "let", .str x, v1, v2]) hq2
      exact q _ _ (e1.trans (e2.trans e3)) (.tup (SqT.of upd_same) (.cons (.str _) (.cons (.str _) (.cons (dp_mono (e2.trans e3) hd1) (.cons (dp_mono e3 hd2) .nil)))))
theorem ok_back (T : Tx K mg ad fd cL cT cN cB) (d : Nat) : FnOk P w K mg base CX0 (d + 3) (ad 23) (fd 23) ["turned_book"] (spBack K d) := by
  have G_bent_at := ok_bent_at (P := P) (w := w) (base := base) T d
  have G_part_back := ok_part_back (P := P) (w := w) (base := base) T d
  refine T.F_back.ok sc_back (fun vs H Q E h => ?_) (fun cdv A outer s H vs Q E hr h => ?_)
  · obtain ⟨v, bk, rfl, _⟩ := h
    rfl
  obtain ⟨v, bk, rfl, hv, hlen, hd, hbk, q⟩ := h
  obtain ⟨a, xs, rfl, hS, hx⟩ := dp_tup hv
  have lx : xs.length = bk.length := by rw [dpa_length hx, List.length_map]
  refine ⟨_, (pss_cons (ps_set (i := 1) sc_back.nd rfl (Or.inl rfl) (pe_call G_bent_at (hr.mono (by first | decide | omega)) (by rfl) T.m_bent_at T.F_bent_at.kp (b_bent_at T) .nil pass0 (pa_cons (pv 0) pa_nil)))
    (pss_cons (ps_if (pt_cmpR op_notN (pv 1) pe_non (nomark _)) pss_never pss_nil)
    (pss_one (ps_ret (pe_callTy (T := "tuple") call_tuple_of (by rfl) T.z_tuple (by decide +kernel) (pa_cons (pe_lc (own := [("name", 2), ("names", 3), ("body", 4)]) (by rfl) sc_back.nd (pi_tup (pv 0)) (blkOk_by (own := [("name", 2), ("names", 3), ("body", 4)]) (N := ["turned_book", "place", "name", "names", "body"]) (sc := defScope s_back) (by decide +kernel)) (fun _ _ _ _ _ => (pg_tupQ (K := K) (n := 3) rfl rfl (pgs_cons (pg_name (i := 2) sc_back.nd rfl (Or.inl rfl)) (pgs_cons (pg_name (i := 3) sc_back.nd rfl (Or.inl rfl)) (pgs_cons (pg_name (i := 4) sc_back.nd rfl (Or.inl rfl)) pgs_nil))))) (fun _ _ _ _ _ => pts_nil) (fun _ _ _ _ _ => (pe_tup (pa_cons (pv 2) (pa_cons (pv 3) (pa_cons (pe_call G_part_back (hr.mono (by first | decide | omega)) (by rfl) T.m_part_back T.F_part_back.kp (b_part_back T) .nil pass0 (pa_cons (pv 4) pa_nil)) pa_nil)))))) pa_nil)))))), ?_⟩
  refine sq_setC (c_callL (c_cons (c_val (val_var rfl) (c_nil ⟨_, bk, rfl, hv, hlen, hd, hbk, fun H0 e0 => ?_⟩))))
  refine sq_no (a_notN (val_var rfl) (by decide +kernel)) ?_
  refine c_ret (c_cbL (c_cons ⟨_, rfl, a, rfl, ⟨_, same_tup e0 hS⟩, fun D hD => ?_⟩))
  refine lc_mapT hD (same_tup e0 hS) ((backBk bk).map encRB) (by simp [backBk, lx]) (noLs_RBs _) (by omega) (fun i x' d' H' R' hxi hdi e3 r => ?_) (fun H3 acc e3 hD3 hacc => ?_) g3_mono
  · obtain ⟨e, z1, z2⟩ := er_get hx hxi
    have hdi' : d' = encRB (e.1, e.2.1, back e.2.2) := by
      rw [List.getElem?_map, show (backBk bk)[i]? = some (e.1, e.2.1, back e.2.2) by rw [backBk, List.getElem?_map, z1]; rfl] at hdi
      cases hdi; rfl
    subst hdi'
    have hm := List.mem_of_getElem? z1
    obtain ⟨ae, te, ze, rfl, hE, hN, hB⟩ := pp_er z2
    obtain ⟨h1, h2⟩ := hbk e hm
    have e03 := e0.trans e3
    refine ⟨ae, _, rfl, same_tup e03 hE, rfl, _, _, rfl, _, _, rfl, _, _, rfl, rfl, rfl, ?_⟩
    refine c_tup' (c_cons (c_val (val_var rfl) (c_cons (c_val (val_var rfl) (c_cons ?_)))))
    refine c_call (va_cons (val_var rfl) va_nil) ⟨ze, e.2.2, rfl, dp_mono e03 hB, h2, fun v' H4 e4 hd' => c_nil ⟨sz_of (by simp), fun q2 hq2 => ?_⟩⟩
    have e5 := same_new (o := .tup [.str e.1, .ref te, v']) hq2
    exact r _ _ (e4.trans e5) (mk_er (SqT.of upd_same) (same_tup (e03.trans (e4.trans e5)) hN) (dp_mono e5 hd'))
  · refine c_nil ⟨D, _, rfl, .inl ⟨SqL.of hD3, fun t ht => ?_⟩⟩
    have e4 := same_new (o := .tup acc) ht
    exact q _ _ (e0.trans (e3.trans e4)) (.tup (SqT.of upd_same) (dpa_mono e4 hacc))
end
end Wn
end
section
set_option Elab.async false
set_option linter.all false
set_option maxRecDepth 100000
set_option maxHeartbeats 4000000
namespace Wn
open PySem PySem.Spec PyProof.Rows L2
theorem sq_forR {te : TE} {g : TG} {tb t2 : TS} {D : Ends} {σ : L2.St} {H : Hp} {n : Nat} (hv : Val te σ H (.int n)) (hn : n ≤ 100000) (Pv : Nat → L2.St → Hp → Prop) (h0 : Pv 0 σ H)
    (hs : ∀ (i : Nat) σ H, i < n → Pv i σ H → g (.int i) σ H fun σ2 H2 => tb { D with nx := Pv (i + 1), ct := Pv (i + 1), bk := t2 D } σ2 H2) (hd : ∀ σ H, Pv n σ H → t2 D σ H) : tSeq (tFor (iRng1 (tCons te tNil)) g tb) t2 D σ H := by
  refine hv _ ⟨(n : Int), rfl, by omega, by omega, ?_⟩
  rw [Int.toNat_natCast]
  refine for_range (lo := 0) (n := n) Pv h0 (fun i σ H hi hp => ?_) hd
  rw [Int.zero_add]
  exact hs i σ H hi hp
/-- a tape -/
def TP (H : Hp) (t : Addr) : Prop := ∃ z : Int, H t = some (.lst [.int z])
abbrev BT (t : Addr) (H H' : Hp) : Prop := But (fun b => b = t) H H'
def Strk (w : Str) : Bool := w.cps.all (· < 0x110000)
def Wokb (w : Str) : Bool := !(w == ("home" : Str)) && Strk w
theorem wok_k {w : Str} (h : Wokb w = true) : Strk w = true := by
  unfold Wokb at h
  simp only [Bool.and_eq_true] at h
  exact h.2
theorem wok_home {w : Str} (h : Wokb w = true) : w ≠ "home" := fun e => by
  rw [e] at h
  exact absurd h (by decide +kernel)
theorem TP.same {H H' : Hp} {t : Addr} (h : TP H t) (e : Same H H') : TP H' t := let ⟨z, q⟩ := h; ⟨z, e _ _ q⟩
theorem TP.mut {H : Hp} {t : Addr} (h : TP H t) : Mut (H t) := by obtain ⟨z, q⟩ := h; rw [q]; trivial
theorem TP.mutS {H : Hp} {t : Addr} (h : TP H t) : MutS (fun b => b = t) H := mutS1 h.mut
def spCellAt (K : PySem.W.Frag) : Sp := fun vs H Q _ => ∃ (a : Addr) (ns : List Int) (k : Nat), vs = [.ref a, .int k] ∧ SqL K H a (ns.map .int) ∧ ∀ z : Int, Q (.int z) H
def spTape (K : PySem.W.Frag) : Sp := fun vs H Q _ => ∃ (a : Addr) (ns : List Int) (k : Nat), vs = [.ref a, .int k] ∧ SqL K H a (ns.map .int) ∧ ∀ (t : Addr) (z : Int), H t = none → Q (.ref t) (upd H t (.lst [.int z]))
def spDigit : Sp := fun vs H Q _ => ∃ (t : Addr) (m : Nat), vs = [.ref t, .int m] ∧ TP H t ∧ 0 < m ∧ m < 1000000 ∧ ∀ (r : Nat) H', r < m → BT t H H' → TP H' t → Q (.int r) H'
def spWords : Sp := fun vs H Q _ => ∃ (t : Addr) (m : Nat), vs = [.ref t, .int m] ∧ TP H t ∧ m ≤ 100 ∧ ∀ (p : Addr) H' (ws : List Str), BT t H H' → TP H' t → H p = none → H' p = some (.lst (ws.map .str)) → ws.length = m → (∀ w ∈ ws, Wokb w = true) → Q (.ref p) H'
def spNumber : Sp := fun vs H Q _ => ∃ (t : Addr), vs = [.ref t] ∧ TP H t ∧ ∀ (n : Int) H', BT t H H' → TP H' t → Q (.int n) H'
section
variable {P : Program} {w : World} {K : PySem.W.Frag} {mg : Str → Option Value} {base : Heap} {ad : Nat → Addr} {fd : Nat → FuncData} {cL cT cN cB : Addr}
theorem ok_Lcell_at (T : Tx K mg ad fd cL cT cN cB) : FnOk P w K mg base CX0 1 (ad 24) (fd 24) ["script", "k"] (spCellAt K) := by
  refine T.F_Lcell_at.ok sc_Lcell_at (fun vs H Q E h => ?_) (fun cdv A outer s H vs Q E hr h => ?_)
  · obtain ⟨a, ns, k, rfl, _⟩ := h
    rfl
  obtain ⟨a, ns, k, rfl, hS, q⟩ := h
  refine ⟨_, (pss_cons (ps_if (pt_cmpR op_lt (pv 1) (pe_callB (id := "len") call_len_seq (by rfl) T.z_len (by decide +kernel) (pa_cons (pv 0) pa_nil)) (nomark _)) (pss_one (ps_ret (pe_ix ix_list (pv 0) (pv 1) (fun _ _ => rfl)))) pss_nil)
    (pss_one (ps_ret pe_int))), ?_⟩
  by_cases hk : k < ns.length
  · refine st_seq (st_yes (a_I0 (b := true) (val_var rfl) (v_len (val_var rfl) (.inl hS)) (by show V.bl (decide ((k : Int) < ((ns.map V.int).length : Int))) = _; rw [List.length_map, decide_eq_true (by omega)])) ?_)
    exact st_ret (v_ixL (val_var rfl) (val_var rfl) hS (atI_nat (j := k) (by rw [List.getElem?_map, List.getElem?_eq_getElem hk]; rfl))) (q _)
  · refine sq_no (a_I0 (b := false) (val_var rfl) (v_len (val_var rfl) (.inl hS)) (by show V.bl (decide ((k : Int) < ((ns.map V.int).length : Int))) = _; rw [List.length_map, decide_eq_false (by omega)])) ?_
    exact st_ret val_c (q _)
theorem ok_Ldigit (T : Tx K mg ad fd cL cT cN cB) : FnOk P w K mg base CX0 1 (ad 26) (fd 26) ["tape", "many"] spDigit := by
  refine T.F_Ldigit.ok sc_Ldigit (fun vs H Q E h => ?_) (fun cdv A outer s H vs Q E hr h => ?_)
  · obtain ⟨t, m, rfl, _⟩ := h
    rfl
  obtain ⟨t, m, rfl, ⟨z, hz⟩, h0, h1, q⟩ := h
  refine ⟨_, (pss_cons (ps_set (i := 2) sc_Ldigit.nd rfl (Or.inl rfl) (pe_op op_mod (pe_ix ix_list (pv 0) pe_int (fun _ _ => rfl)) (pv 1)))
    (pss_cons (ps_asg (pe_op op_fdiv (pe_ix ix_list (pv 0) pe_int (fun _ _ => rfl)) (pv 1)) (pg_sub (pv 0) pe_int set_list))
    (pss_one (ps_ret (pv 2))))), ?_⟩
  have hS : SqL K H t [.int z] := SqL.of hz
  have p0 : (0 : Int) < (m : Int) := by omega
  refine sq_set (v_I (v_ixL (val_var rfl) val_c hS rfl) (val_var rfl) p0) ?_
  refine st_seq (v_I (C := CDiv) (g := fun i j => .int (i / j)) (v_ixL (val_var rfl) val_c hS rfl) (val_var rfl) ⟨p0, by omega⟩ _ ?_)
  refine c_val (val_var rfl) (c_val val_c ⟨t, [.int z], 0, 0, rfl, rfl, hz, rfl, ?_⟩)
  have hm : 0 ≤ z % (m : Int) := Int.emod_nonneg _ (by omega)
  have hl : z % (m : Int) < m := Int.emod_lt_of_pos _ p0
  have e : z % (m : Int) = ((z % (m : Int)).toNat : Int) := by omega
  refine c_ret (c_val (val_var rfl) ?_)
  rw [e]
  exact q _ _ (by omega) (But.mut rfl) ⟨_, upd_same⟩
theorem ok_Ltape (T : Tx K mg ad fd cL cT cN cB) : FnOk P w K mg base CX0 2 (ad 25) (fd 25) ["script", "k"] (spTape K) := by
  have G_Lcell_at := ok_Lcell_at (P := P) (w := w) (base := base) T
  refine T.F_Ltape.ok sc_Ltape (fun vs H Q E h => ?_) (fun cdv A outer s H vs Q E hr h => ?_)
  · obtain ⟨a, ns, k, rfl, _⟩ := h
    rfl
  obtain ⟨a, ns, k, rfl, hS, q⟩ := h
  refine ⟨_, (pss_cons (ps_set (i := 2) sc_Ltape.nd rfl (Or.inl rfl) (pe_call G_Lcell_at (hr.mono (by first | decide | omega)) (by rfl) T.m_Lcell_at T.F_Lcell_at.kp (b_Lcell_at T) .nil pass0 (pa_cons (pv 0) (pa_cons (pv 1) pa_nil))))
    (pss_cons (ps_if (pt_cmpR op_eq (pv 2) pe_int (nomark _)) (pss_one (ps_ret (pe_lst (pa_cons pe_int pa_nil)))) pss_nil)
    (pss_cons (ps_if (pt_cmpR op_ge (pv 2) (pe_op op_pow pe_int pe_int) (nomark _)) (pss_one (ps_ret (pe_lst (pa_cons (pe_op op_sub (pv 2) (pe_op op_pow pe_int pe_int)) pa_nil)))) pss_nil)
    (pss_cons (ps_set (i := 3) sc_Ltape.nd rfl (Or.inl rfl) pe_int)
    (pss_cons (ps_set (i := 4) sc_Ltape.nd rfl (Or.inl rfl) (pe_op op_mod (pe_op op_add (pe_op op_add (pe_op op_mulR (pv 2) pe_int) (pe_op op_mulR pe_int (pv 1))) pe_int) (pv 3)))
    (pss_cons (ps_set (i := 5) sc_Ltape.nd rfl (Or.inl rfl) (pv 4))
    (pss_cons (ps_for PassesOwn.never rfl (pi_range1 (by rfl) T.z_range (pa_cons pe_int pa_nil)) (pg_name (i := 6) sc_Ltape.nd rfl (Or.inl rfl))
    (pss_cons (ps_set (i := 4) sc_Ltape.nd rfl (Or.inl rfl) (pe_op op_mod (pe_op op_add (pe_op op_add (pe_op op_add (pe_op op_mulR (pv 4) (pv 4)) (pe_op op_mulR pe_int (pv 6))) (pv 2)) pe_int) (pv 3)))
    (pss_one (ps_set (i := 5) sc_Ltape.nd rfl (Or.inl rfl) (pe_op op_add (pe_op op_mulR (pv 5) (pv 3)) (pv 4))))))
    (pss_one (ps_ret (pe_lst (pa_cons (pv 5) pa_nil))))))))))), ?_⟩
  refine sq_setC (c_call (va_cons (val_var rfl) (va_cons (val_var rfl) va_nil)) ⟨a, ns, k, rfl, hS, fun z => ?_⟩)
  by_cases hz : z = 0
  · refine st_seq (st_yes (a_eq (val_var rfl) val_c rfl (by rw [hz]; decide +kernel)) ?_)
    exact c_ret (c_lstV (va_cons val_c va_nil) (by simp) fun t ht => q t _ ht)
  refine sq_no (a_eq (val_var rfl) val_c rfl (decide_eq_false (by intro e; injection e with e; exact hz e))) ?_
  have pw : Val (tOp (rI CPow fun i j => .int (i ^ j.toNat)) (tC (.int 10)) (tC (.int 18))) [some (V.ref a), some (V.int k), some (V.int z), none, none, none, none] H (.int (10 ^ 18)) := v_I val_c val_c (show CPow 10 18 from ⟨by decide, by decide, by decide⟩)
  by_cases hb : (10 ^ 18 : Int) ≤ z
  · refine st_seq (st_yes (a_I0 (b := true) (val_var rfl) pw (by show V.bl (decide ((10 ^ 18 : Int) ≤ z)) = _; rw [decide_eq_true hb])) ?_)
    exact c_ret (c_lstV (va_cons (v_I0 (val_var rfl) pw) va_nil) (by simp) fun t ht => q t _ ht)
  refine sq_no (a_I0 (b := false) (val_var rfl) pw (by show V.bl (decide ((10 ^ 18 : Int) ≤ z)) = _; rw [decide_eq_false hb])) ?_
  refine sq_set val_c ?_
  have b64 : ∀ n : Int, 0 ≤ n → n < 2305843009213693951 → Builtin.Int.intBits n ≤ 64 := fun n h1 h2 => intBits_le_64 (by omega) (by omega)
  have pP : (0 : Int) < 2305843009213693951 := by decide
  refine sq_set (v_I (v_I0 (v_I0 (v_I (C := fun i j => IntMulOk i j) (val_var rfl) val_c (IntMulOk.of_right (intBits_le_64 (by decide) (by decide)))) (v_I (C := fun i j => IntMulOk i j) val_c (val_var rfl) (IntMulOk.of_left (intBits_le_64 (by decide) (by decide))))) val_c) (val_var rfl) pP) ?_
  refine sq_set (val_var rfl) ?_
  refine sq_forR (n := 20) val_c (by decide) (fun i σ H' => H' = H ∧ ∃ (o f : Int) (a6 : Option V), 0 ≤ o ∧ o < 2305843009213693951 ∧ σ = [some (V.ref a), some (V.int k), some (V.int z), some (V.int 2305843009213693951), some (V.int o), some (V.int f), a6]) ?_ ?_ ?_
  · exact ⟨rfl, _, _, none, Int.emod_nonneg _ (by decide), Int.emod_lt_of_pos _ pP, rfl⟩
  · rintro i σ H' hi ⟨rfl, o, f, a6, h1, h2, rfl⟩
    refine sq_set (v_I (v_I0 (v_I0 (v_I0 (v_I (C := fun i j => IntMulOk i j) (val_var rfl) (val_var rfl) (IntMulOk.of_left (b64 o h1 h2))) (v_I (C := fun i j => IntMulOk i j) val_c (val_var rfl) (IntMulOk.of_left (intBits_le_64 (by decide) (by decide))))) (val_var rfl)) val_c) (val_var rfl) pP) ?_
    refine st_set (v_I0 (v_I (C := fun i j => IntMulOk i j) (val_var rfl) (val_var rfl) (IntMulOk.of_right (intBits_le_64 (by decide) (by decide)))) (val_var rfl)) ?_
    exact ⟨rfl, _, _, _, Int.emod_nonneg _ (by decide), Int.emod_lt_of_pos _ pP, rfl⟩
  · rintro σ H' ⟨rfl, o, f, a6, h1, h2, rfl⟩
    exact c_ret (c_lstV (va_cons (val_var rfl) va_nil) (by simp) fun t ht => q t _ ht)
end
end Wn
end
section
set_option Elab.async false
set_option linter.all false
set_option maxRecDepth 100000
set_option maxHeartbeats 4000000
namespace Wn
open PySem PySem.Spec PyProof.Rows L2
/-- a comprehension over a range that makes words, nothing else -/
theorem lc_wordsR {g : TG} {te : TE} {vs : List Nat} {σ : L2.St} {H1 : Hp} {D : Addr} {Qd : Hp → Prop} {n : Nat} (n1 : H1 D = none) (sm : n ≤ 1000)
    (hs : ∀ (i : Nat) (H : Hp) (R : VK), i < n → Same H1 H → (∀ w : Str, Wokb w = true → R (.str w) H) → g (.int i) (wipe σ vs) H fun σ2 H2 => wipe σ2 vs = wipe σ vs ∧ te σ2 H2 R)
    (hd : ∀ H (ws : List Str), Same H1 H → H D = some (.lst (ws.map .str)) → ws.length = n → (∀ w ∈ ws, Wokb w = true) → Qd H) (mono : ∀ x σ H (P R : L2.St → Hp → Prop), (∀ σ H, P σ H → R σ H) → g x σ H P → g x σ H R) :
    ∃ W : Nat → Nat → Hp → Prop, (∃ m, W 0 m (upd H1 D (.lst []))) ∧ ∀ i m H, W i m H →
      ((Itr 0 n).stop i H ∧ Qd H) ∨ ((Itr 0 n).go i H ∧ ∃ Nx : Hp → Prop, (∀ H', Nx H' → ∃ m', m' < m ∧ W (i + 1) m' H') ∧ ∀ x H', (Itr 0 n).yld i H x H' → g x (wipe σ vs) H' fun σ2 H2 => wipe σ2 vs = wipe σ vs ∧ tYes σ2 H2 fun b H3 =>
        if b = true then te σ2 H3 fun y H4 => ∃ acc, H4 D = some (.lst acc) ∧ acc.length < sizeLine ∧ Nx (upd H4 D (.lst (acc ++ [y]))) else Nx H3) := by
  refine lc_range (lo := 0) (n := n) (fun i H => ∃ ws : List Str, Same H1 H ∧ H D = some (.lst (ws.map .str)) ∧ ws.length = i ∧ (∀ w ∈ ws, Wokb w = true)) ⟨[], same_new n1, upd_same, rfl, fun w h => by cases h⟩ (fun i H hi ⟨ws, e, hD, hl, hw⟩ => ?_) fun H ⟨ws, e, hD, hl, hw⟩ => hd H ws e hD hl hw
  rw [Int.zero_add]
  have key := hs i H (fun y H4 => ∃ acc, H4 D = some (HO.lst acc) ∧ acc.length < sizeLine ∧ ∃ ws' : List Str, Same H1 (upd H4 D (.lst (acc ++ [y]))) ∧ upd H4 D (.lst (acc ++ [y])) D = some (HO.lst (ws'.map .str)) ∧ ws'.length = i + 1 ∧ (∀ w ∈ ws', Wokb w = true)) hi e (fun w ok => by
    refine ⟨_, hD, sz_lt (by rw [List.length_map, hl]; omega), ws ++ [w], but_same (But.mut rfl) e n1, by rw [upd_same, List.map_append]; rfl, by simp [hl], fun z hz => ?_⟩
    rcases List.mem_append.mp hz with hz | hz
    · exact hw z hz
    · rw [List.mem_singleton.mp hz]; exact ok)
  refine mono _ _ _ _ _ ?_ key
  intro σ2 H2 q
  refine ⟨q.1, ?_⟩
  dsimp only [tYes]
  rw [if_pos rfl]
  exact q.2
theorem wok0 : ∀ e ∈ ([("" : Str), ("a" : Str), ("omelons" : Str)] : List Str), ∀ r : Nat, r < 26 → Wokb ((⟨#[97 + r]⟩ : Str) ++ e) = true := by decide +kernel
theorem wok1 : ∀ m : Nat, m < 8 → ∀ r : Nat, r < 26 → Wokb (Txt.mul (⟨#[97 + r]⟩ : Str) (1 + (m : Int))) = true := by decide +kernel
def some18 : List Str := [("give" : Str), "ask", "post", "plus", "less", "name", "number", "to", "as", "f", "x", "aq", "bq", "lets", "ifs", "ina", "homes", "q"]
theorem wok2 : ∀ w ∈ some18, Wokb w = true := by decide +kernel
theorem mul_ok {c n : Nat} (h : n < 8) : MulOk (⟨#[c]⟩ : Str) (1 + (n : Int)) := by
  have hl : (⟨#[c]⟩ : Str).length = 1 := rfl
  refine ⟨by simp; omega, fun _ _ => ?_, fun _ _ => ?_⟩
  · rw [hl]
    have : (1 : Int) ≤ (2 ^ 63 - 1) / (1 + (n : Int)) := by
      rw [Int.le_ediv_iff_mul_le (by omega)]; omega
    omega
  · rw [hl]
    have e : (1 + (n : Int)).toNat = 1 + n := by omega
    rw [e]
    show decide (1 * (1 + n) > sizeLine) = false
    rw [decide_eq_false]
    rw [sizeLine_eq]; omega
theorem c_lcR {te0 te : TE} {g : TG} {vs : List Nat} {σ : L2.St} {H : Hp} {Q : VK} {n : Nat} (hv : Val te0 σ H (.int n)) (hn : n ≤ 1000) (mono : ∀ x σ H (P R : L2.St → Hp → Prop), (∀ σ H, P σ H → R σ H) → g x σ H P → g x σ H R)
    (hs : ∀ (i : Nat) (H' : Hp) (R : VK), i < n → Same H H' → (∀ w : Str, Wokb w = true → R (.str w) H') → g (.int i) (wipe σ vs) H' fun σ2 H2 => wipe σ2 vs = wipe σ vs ∧ te σ2 H2 R)
    (hd : ∀ (D : Addr) H' (ws : List Str), H D = none → Same H H' → H' D = some (.lst (ws.map .str)) → ws.length = n → (∀ w ∈ ws, Wokb w = true) → Q (.ref D) H') : tLc (iRng1 (tCons te0 tNil)) g tYes te vs σ H Q := by
  refine hv _ ⟨(n : Int), rfl, by omega, by omega, ?_⟩
  rw [Int.toNat_natCast]
  exact fun D hD => lc_wordsR hD hn hs (fun H' ws h1 h2 h3 h4 => hd D H' ws hD h1 h2 h3 h4) mono
section
variable {P : Program} {w : World} {K : PySem.W.Frag} {mg : Str → Option Value} {base : Heap} {ad : Nat → Addr} {fd : Nat → FuncData} {cL cT cN cB : Addr}
theorem ok_Lwords (T : Tx K mg ad fd cL cT cN cB) : FnOk P w K mg base CX0 2 (ad 27) (fd 27) ["tape", "many"] spWords := by
  have G_Ldigit := ok_Ldigit (P := P) (w := w) (base := base) T
  refine T.F_Lwords.ok sc_Lwords (fun vs H Q E h => ?_) (fun cdv A outer s H vs Q E hr h => ?_)
  · obtain ⟨t, m, rfl, _⟩ := h
    rfl
  obtain ⟨t, m, rfl, hT, hm, q⟩ := h
  refine ⟨_, (pss_cons (ps_set (i := 2) sc_Lwords.nd rfl (Or.inr rfl) pe_str)
    (pss_cons (ps_set (i := 3) sc_Lwords.nd rfl (Or.inl rfl) (pe_call G_Ldigit (hr.mono (by first | decide | omega)) (by rfl) T.m_Ldigit T.F_Ldigit.kp (b_Ldigit T) .nil pass0 (pa_cons (pv 0) (pa_cons pe_int pa_nil))))
    (pss_cons (ps_set (i := 4) sc_Lwords.nd rfl (Or.inr rfl) (pe_call G_Ldigit (hr.mono (by first | decide | omega)) (by rfl) T.m_Ldigit T.F_Ldigit.kp (b_Ldigit T) .nil pass0 (pa_cons (pv 0) (pa_cons pe_int pa_nil))))
    (pss_cons (ps_if (pt_cmpR op_eq (pv 3) pe_int (nomark _)) (pss_cons (ps_set (i := 5) sc_Lwords.nd rfl (Or.inr rfl) (pe_ix ix_list (pe_lst (pa_cons pe_str (pa_cons pe_str (pa_cons pe_str pa_nil)))) (pe_call G_Ldigit (hr.mono (by first | decide | omega)) (by rfl) T.m_Ldigit T.F_Ldigit.kp (b_Ldigit T) .nil pass0 (pa_cons (pv 0) (pa_cons pe_int pa_nil))) (fun _ _ => rfl)))
    (pss_one (ps_ret (pe_lc (own := [("k", 7)]) (by rfl) sc_Lwords.nd (pi_range1 (by rfl) T.z_range (pa_cons (pv 1) pa_nil)) (blkOk_by (own := [("k", 7)]) (N := ["tape", "many", "letters", "way", "turn", "ends", "some", "k"]) (sc := defScope s_Lwords) (by decide +kernel)) (fun _ _ _ _ _ => (pg_name (i := 7) sc_Lwords.nd rfl (Or.inl rfl))) (fun _ _ _ _ _ => pts_nil) (fun _ _ _ _ _ => (pe_op op_add_str (pe_ix ix_str (pv 2) (pe_op op_mod (pe_op op_add (pv 4) (pv 7)) pe_int) (fun _ _ => rfl)) (pv 5))))))) pss_nil)
    (pss_cons (ps_if (pt_cmpR op_eq (pv 3) pe_int (nomark _)) (pss_one (ps_ret (pe_lc (own := [("k", 7)]) (by rfl) sc_Lwords.nd (pi_range1 (by rfl) T.z_range (pa_cons (pv 1) pa_nil)) (blkOk_by (own := [("k", 7)]) (N := ["tape", "many", "letters", "way", "turn", "ends", "some", "k"]) (sc := defScope s_Lwords) (by decide +kernel)) (fun _ _ _ _ _ => (pg_name (i := 7) sc_Lwords.nd rfl (Or.inl rfl))) (fun _ _ _ _ _ => pts_nil) (fun _ _ _ _ _ => (pe_op op_mulS (pe_ix ix_str (pv 2) (pe_op op_mod (pe_op op_add (pv 4) (pe_op op_fdiv (pv 7) pe_int)) pe_int) (fun _ _ => rfl)) (pe_op op_add pe_int (pe_op op_mod (pv 7) pe_int))))))) pss_nil)
    (pss_cons (ps_set (i := 6) sc_Lwords.nd rfl (Or.inr rfl) (pe_lst (pa_cons pe_str (pa_cons pe_str (pa_cons pe_str (pa_cons pe_str (pa_cons pe_str (pa_cons pe_str (pa_cons pe_str (pa_cons pe_str (pa_cons pe_str (pa_cons pe_str (pa_cons pe_str pa_nil)))))))))))))
    (pss_cons (ps_set (i := 6) sc_Lwords.nd rfl (Or.inr rfl) (pe_op op_cat (pv 6) (pe_lst (pa_cons pe_str (pa_cons pe_str (pa_cons pe_str (pa_cons pe_str (pa_cons pe_str (pa_cons pe_str (pa_cons pe_str pa_nil))))))))))
    (pss_one (ps_ret (pe_lc (own := [("k", 7)]) (by rfl) sc_Lwords.nd (pi_range1 (by rfl) T.z_range (pa_cons (pv 1) pa_nil)) (blkOk_by (own := [("k", 7)]) (N := ["tape", "many", "letters", "way", "turn", "ends", "some", "k"]) (sc := defScope s_Lwords) (by decide +kernel)) (fun _ _ _ _ _ => (pg_name (i := 7) sc_Lwords.nd rfl (Or.inl rfl))) (fun _ _ _ _ _ => pts_nil) (fun _ _ _ _ _ => (pe_ix (ix_listQ (K := K) rfl) (pv 6) (pe_op op_mod (pe_op op_add (pv 4) (pv 7)) pe_int) (fun _ _ => rfl))))))))))))), ?_⟩
  refine sq_set val_c ?_
  refine sq_setC (c_call (va_cons (val_var rfl) (va_cons val_c va_nil)) ⟨t, 3, rfl, hT, by decide, by decide, fun way H1 hw b1 hT1 => ?_⟩)
  refine sq_setC (c_call (va_cons (val_var rfl) (va_cons val_c va_nil)) ⟨t, 26, rfl, hT1, by decide, by decide, fun tn H2 htn b2 hT2 => ?_⟩)
  have b12 := b1.trans b2
  by_cases w0 : way = 0
  · subst w0
    refine st_seq (st_yes (a_eq (val_var rfl) val_c rfl (by decide +kernel)) ?_)
    refine sq_setC (c_opL (c_lstV (va_cons val_c (va_cons val_c (va_cons val_c va_nil))) (by simp) fun le hle => ?_))
    have e3 := same_new (o := .lst [.str "", .str "a", .str "omelons"]) hle
    refine c_call (va_cons (val_var rfl) (va_cons val_c va_nil)) ⟨t, 3, rfl, hT2.same e3, by decide, by decide, fun k H3 hk b3 hT3 => ?_⟩
    have nlt : le ≠ t := fun z => by obtain ⟨z', h⟩ := hT2; rw [← z, hle] at h; cases h
    have hl3 : H3 le = some (.lst [.str "", .str "a", .str "omelons"]) := b3 _ _ nlt upd_same
    obtain ⟨en, h1, h2⟩ : ∃ en : Str, atI [V.str "", V.str "a", V.str "omelons"] (k : Int) = some (.str en) ∧ en ∈ ([("" : Str), ("a" : Str), ("omelons" : Str)] : List Str) := by
      match k, hk with
      | 0, _ => exact ⟨_, rfl, by simp⟩
      | 1, _ => exact ⟨_, rfl, by simp⟩
      | 2, _ => exact ⟨_, rfl, by simp⟩
    refine ⟨le, _, _, _, rfl, rfl, SqL.of hl3, h1, ?_⟩
    have b23 := b12.trans ((But.of e3).trans b3)
    refine c_ret (c_lcR (n := m) (val_var rfl) (by omega) (fun x σ H P R m h => m _ _ h) (fun i H' R hi e4 r => ⟨rfl, ?_⟩) fun D H' ws hD e4 hl hlen hok => q D H' ws (b23.trans (But.of e4)) (hT3.same e4) ?_ hl hlen hok)
    · have e : ((tn : Int) + (i : Int)) % 26 = (((tn + i) % 26 : Nat) : Int) := by omega
      refine c_val (v_str_add (v_ixS (val_var rfl) (v_I (v_I0 (val_var rfl) (val_var rfl)) val_c (show (0 : Int) < 26 by decide)) letters_len (by rw [e]; exact letters_at _ (Nat.mod_lt _ (by decide)))) (val_var rfl) ?_) (r _ (wok0 en h2 _ (Nat.mod_lt _ (by decide))))
      have : ∀ z ∈ ([("" : Str), ("a" : Str), ("omelons" : Str)] : List Str), z.length ≤ 10 := by decide +kernel
      have := this en h2
      show 1 + en.length ≤ 100000
      omega
    · exact free_of (fun o ho => by
        by_cases ht : D = t
        · obtain ⟨z, h⟩ := hT3; exact ⟨_, by rw [ht]; exact h⟩
        · exact ⟨o, b23 _ _ ht ho⟩) hD
  refine sq_no (a_eq (val_var rfl) val_c rfl (decide_eq_false (by intro e; injection e with e; omega))) ?_
  have fr : ∀ D, H2 D = none → H D = none := fun D hD => free_of (fun o ho => by
        by_cases ht : D = t
        · obtain ⟨z, h⟩ := hT2; exact ⟨_, by rw [ht]; exact h⟩
        · exact ⟨o, b12 _ _ ht ho⟩) hD
  by_cases w1 : way = 1
  · subst w1
    refine st_seq (st_yes (a_eq (val_var rfl) val_c rfl (by decide +kernel)) ?_)
    refine c_ret (c_lcR (n := m) (val_var rfl) (by omega) (fun x σ H P R m h => m _ _ h) (fun i H' R hi e4 r => ⟨rfl, ?_⟩) fun D H' ws hD e4 hl hlen hok => q D H' ws (b12.trans (But.of e4)) (hT2.same e4) (fr D hD) hl hlen hok)
    have e : ((tn : Int) + (i : Int) / 8) % 26 = (((tn + i / 8) % 26 : Nat) : Int) := by omega
    have e2 : 1 + (i : Int) % 8 = 1 + ((i % 8 : Nat) : Int) := by omega
    refine c_op (v_ixS (val_var rfl) (v_I (v_I0 (val_var rfl) (v_I (C := CDiv) (g := fun i j => .int (i / j)) (val_var rfl) val_c ⟨by decide, by decide⟩)) val_c (show (0 : Int) < 26 by decide)) letters_len (by rw [e]; exact letters_at _ (Nat.mod_lt _ (by decide)))) (v_I0 val_c (v_I (val_var rfl) val_c (show (0 : Int) < 8 by decide))) ⟨_, _, rfl, rfl, ?_, ?_⟩
    · rw [e2]; exact mul_ok (Nat.mod_lt _ (by decide))
    · rw [e2]; exact r _ (wok1 _ (Nat.mod_lt _ (by decide)) _ (Nat.mod_lt _ (by decide)))
  · refine sq_no (a_eq (val_var rfl) val_c rfl (decide_eq_false (by intro e; injection e with e; omega))) ?_
    refine sq_setC (c_lstV (va_cons val_c (va_cons val_c (va_cons val_c (va_cons val_c (va_cons val_c (va_cons val_c (va_cons val_c (va_cons val_c (va_cons val_c (va_cons val_c (va_cons val_c va_nil))))))))))) (by simp) fun l1 hl1 => ?_)
    have e1 := same_new (o := .lst [V.str "give", V.str "ask", V.str "post", V.str "plus", V.str "less", V.str "name", V.str "number", V.str "to", V.str "as", V.str "f", V.str "x"]) hl1
    refine sq_setC (c_opL (c_val (val_var rfl) (c_lstV (va_cons val_c (va_cons val_c (va_cons val_c (va_cons val_c (va_cons val_c (va_cons val_c (va_cons val_c va_nil))))))) (by simp) fun l2 hl2 => ?_)))
    have e2 := same_new (o := .lst [V.str "aq", V.str "bq", V.str "lets", V.str "ifs", V.str "ina", V.str "homes", V.str "q"]) hl2
    refine ⟨l1, l2, _, _, rfl, rfl, e2 _ _ upd_same, upd_same, sz_of (by simp), fun l3 hl3 => ?_⟩
    have e3 := same_new (o := .lst (some18.map V.str)) hl3
    show tRet _ _ _ (upd _ l3 (.lst (some18.map V.str)))
    have h3 : upd (upd (upd H2 l1 (.lst [V.str "give", V.str "ask", V.str "post", V.str "plus", V.str "less", V.str "name", V.str "number", V.str "to", V.str "as", V.str "f", V.str "x"])) l2 (.lst [V.str "aq", V.str "bq", V.str "lets", V.str "ifs", V.str "ina", V.str "homes", V.str "q"])) l3 (.lst (some18.map V.str)) l3 = some (.lst (some18.map V.str)) := upd_same
    have e123 := e1.trans (e2.trans e3)
    generalize upd (upd (upd H2 l1 (.lst [V.str "give", V.str "ask", V.str "post", V.str "plus", V.str "less", V.str "name", V.str "number", V.str "to", V.str "as", V.str "f", V.str "x"])) l2 (.lst [V.str "aq", V.str "bq", V.str "lets", V.str "ifs", V.str "ina", V.str "homes", V.str "q"])) l3 (.lst (some18.map V.str)) = H3 at *
    refine c_ret (c_lcR (n := m) (val_var rfl) (by omega) (fun x σ H P R m h => m _ _ h) (fun i H' R hi e4 r => ⟨rfl, ?_⟩) fun D H' ws hD e4 hl hlen hok => q D H' ws (b12.trans (But.of (e123.trans e4))) (hT2.same (e123.trans e4)) (fr D (free_of (fun o ho => ⟨o, e123 _ _ ho⟩) hD)) hl hlen hok)
    have e : ((tn : Int) + (i : Int)) % 18 = (((tn + i) % 18 : Nat) : Int) := by omega
    have hlt : (tn + i) % 18 < some18.length := Nat.mod_lt _ (by decide)
    refine c_val (v_ixL (val_var rfl) (v_I (v_I0 (val_var rfl) (val_var rfl)) val_c (show (0 : Int) < 18 by decide)) (SqL.of (e4 _ _ h3)) (v := .str (some18[(tn + i) % 18])) (by rw [e]; exact atI_nat (by rw [List.getElem?_map, List.getElem?_eq_getElem hlt]; rfl))) (r _ (wok2 _ (List.getElem_mem hlt)))
end
end Wn
end
section
set_option Elab.async false
set_option linter.all false
set_option maxRecDepth 100000
set_option maxHeartbeats 4000000
namespace Wn
open PySem PySem.Spec PyProof.Rows L2
section
variable {K : PySem.W.Frag} {σ : L2.St} {H H' H1 : Hp} {ta tb : TE} {t u : TT} {t1 t2 ts : TS} {D : Ends} {R : Bool → Hp → Prop} {S S' : Addr → Prop}
theorem c_orT (h : Ans t σ H true) (q : R true H) : tOr t u σ H R := h _ (iteT q)
theorem c_orF (h : Ans t σ H false) (q : u σ H R) : tOr t u σ H R := h _ (iteF q)
theorem c_andT (h : Ans t σ H true) (q : u σ H R) : tAnd t u σ H R := h _ (iteT q)
theorem c_andF (h : Ans t σ H false) (q : R false H) : tAnd t u σ H R := h _ (iteF q)
theorem c_test {te : TE} (h : te σ H fun x H' => ∃ k, x = .bl k ∧ R k H') : tTest te σ H R := h
theorem sq_ifC (h : t σ H fun b H1 => if b = true then t1 { D with nx := t2 D } σ H1 else ts { D with nx := t2 D } σ H1) : tSeq (tIfS t t1 ts) t2 D σ H := h
theorem c_ifC (h : t σ H fun b H1 => if b = true then t1 D σ H1 else ts D σ H1) : tIfS t t1 ts D σ H := h
theorem but_drop (e : But S' H1 H') (sub : ∀ b, S' b → S b ∨ H b = none) (g : But S H H1) : But S H H' := fun b o n hb => e b o (fun s' => (sub b s').elim n (fun z => by rw [z] at hb; cases hb)) (g b o n hb)
end
/-- a list of words -/
structure AR (H : Hp) (a : Addr) (xs : List Str) : Prop where
  at_ : H a = some (.lst (xs.map .str))
  len : xs.length ≤ 200
  ok : ∀ x ∈ xs, Strk x = true
theorem tp_ne {H : Hp} {t a : Addr} {xs : List Str} (h : TP H t) (ha : H a = some (.lst (xs.map .str))) : a ≠ t := fun z => by
  obtain ⟨y, q⟩ := h
  rw [z, q] at ha
  cases xs with
  | nil => cases ha
  | cons x r => cases ha
theorem AR.bt {H H' : Hp} {t a : Addr} {xs : List Str} (h : AR H a xs) (ht : TP H t) (e : BT t H H') : AR H' a xs := ⟨e _ _ (tp_ne ht h.at_) h.at_, h.len, h.ok⟩
theorem AR.same {H H' : Hp} {a : Addr} {xs : List Str} (h : AR H a xs) (e : Same H H') : AR H' a xs := ⟨e _ _ h.at_, h.len, h.ok⟩
theorem AR.sq {K : PySem.W.Frag} {H : Hp} {a : Addr} {xs : List Str} (h : AR H a xs) : SqL K H a (xs.map .str) := SqL.of h.at_
theorem AR.dp {K : PySem.W.Frag} {H : Hp} {a : Addr} {xs : List Str} (h : AR H a xs) : Dp K H (.ref a) (.list (xs.map .str)) := .lst h.sq dpa_of_strs
theorem wok_str {w : Str} (h : Strk w = true) : PyData.strOk w = true := h
theorem can_strs : ∀ {xs : List Str}, (∀ x ∈ xs, Strk x = true) → PyData.canLayAll0 (xs.map .str) = true
  | [], _ => rfl
  | x :: xs, h => by
    show (PyData.canLay0 (.str x) && PyData.canLayAll0 (xs.map .str)) = true
    rw [can_strs fun y hy => h y (List.mem_cons_of_mem _ hy), Bool.and_true]
    exact wok_str (h x List.mem_cons_self)
theorem dep_strs : ∀ xs : List Str, PyData.depthAll (xs.map .str) = 0
  | [] => rfl
  | x :: xs => by
    show max 0 (PyData.depthAll (xs.map .str)) = 0
    rw [dep_strs xs]; rfl
theorem shaped_list {xs : List Str} (h : ∀ x ∈ xs, Strk x = true) : SeqAt.shaped (.list (xs.map .str)) = true := by
  unfold SeqAt.shaped
  rw [Bool.and_eq_true]
  refine ⟨can_strs h, decide_eq_true ?_⟩
  show PyData.depthAll (xs.map .str) + 1 ≤ 64
  rw [dep_strs]; decide
theorem eqv_nil (xs : List Str) : PyData.eqv (.list (xs.map .str)) (.list []) = decide (xs = []) := by
  cases xs <;> rfl
/-- around != [] -/
theorem c_neNil {K : PySem.W.Frag} {σ : L2.St} {H : Hp} {te : TE} {a : Addr} {xs : List Str} {Q : VK} (hv : Val te σ H (.ref a)) (h : AR H a xs) (q : ∀ p, H p = none → Q (.bl (!decide (xs = []))) (upd H p (.lst []))) : tOp (rNeD K) te (tLst tNil) σ H Q := by
  refine c_opL (hv _ (c_lstV va_nil (by simp) fun p hp => ?_))
  refine ⟨_, .list [], (h.same (same_new hp)).dp, .lst (SqL.of upd_same) .nil, shaped_list h.ok, by decide +kernel, ?_⟩
  rw [eqv_nil]; exact q p hp
theorem c_eqNil {K : PySem.W.Frag} {σ : L2.St} {H : Hp} {te : TE} {a : Addr} {xs : List Str} {Q : VK} (hv : Val te σ H (.ref a)) (h : AR H a xs) (q : ∀ p, H p = none → Q (.bl (decide (xs = []))) (upd H p (.lst []))) : tOp (rEqD K) te (tLst tNil) σ H Q := by
  refine c_opL (hv _ (c_lstV va_nil (by simp) fun p hp => ?_))
  refine ⟨_, .list [], (h.same (same_new hp)).dp, .lst (SqL.of upd_same) .nil, shaped_list h.ok, by decide +kernel, ?_⟩
  rw [eqv_nil]; exact q p hp
def spLeaf (K : PySem.W.Frag) : Sp := fun vs H Q _ => ∃ (t : Addr) (kn : V) (ar : Addr) (xs : List Str), vs = [.ref t, kn, .ref ar] ∧ TP H t ∧ AR H ar xs ∧ ∀ v' H' (s : Tms), BT t H H' → TP H' t → Dp K H' v' (encT s) → WFt xs s → tdep s ≤ 1 → Q v' H'
def spShares : Sp := fun vs H Q _ => ∃ (t : Addr) (room : Nat), vs = [.ref t, .int room, .int 2] ∧ TP H t ∧ 2 ≤ room ∧ room ≤ 100 ∧ ∀ (p : Addr) H' (a b : Nat), BT t H H' → TP H' t → H' p = some (.lst [.int a, .int b]) → H p = none → 1 ≤ a → 1 ≤ b → a + b ≤ room → Q (.ref p) H'
def spLessOne (K : PySem.W.Frag) : Sp := fun vs H Q _ => ∃ (ar : Addr) (xs : List Str), vs = [.ref ar] ∧ AR H ar xs ∧ ∀ v' H' (s : Tms), Same H H' → Dp K H' v' (encT s) → WFt xs s → tdep s ≤ 2 → Q v' H'
def spNumbers (K : PySem.W.Frag) : Sp := fun vs H Q _ => ∃ (t : Addr) (m : Nat), vs = [.ref t, .int m] ∧ TP H t ∧ m ≤ 100 ∧ ∀ (p : Addr) H' (ns : List Int), BT t H H' → TP H' t → SqT K H' p (ns.map .int) → ns.length = m → Q (.ref p) H'
def spSimple (K : PySem.W.Frag) (d : Nat) : Sp := fun vs H Q _ => ∃ (t : Addr) (ar : Addr) (xs : List Str), vs = [.ref t, .ref ar, .int d] ∧ TP H t ∧ AR H ar xs ∧ ∀ v' H' (s : Tms), BT t H H' → TP H' t → Dp K H' v' (encT s) → WFt xs s → tdep s ≤ d + 1 → Q v' H'
theorem digit_pos {r : Nat} : V.bl (decide ((0 : Int) < (r : Int))) = .bl (decide (0 < r)) := by
  by_cases h : 0 < r
  · rw [decide_eq_true h, decide_eq_true (by omega)]
  · rw [decide_eq_false h, decide_eq_false (by omega)]
section
variable {P : Program} {w : World} {K : PySem.W.Frag} {mg : Str → Option Value} {base : Heap} {ad : Nat → Addr} {fd : Nat → FuncData} {cL cT cN cB : Addr}
theorem ok_Lnumber (T : Tx K mg ad fd cL cT cN cB) : FnOk P w K mg base CX0 2 (ad 28) (fd 28) ["tape"] spNumber := by
  have G_Ldigit := ok_Ldigit (P := P) (w := w) (base := base) T
  refine T.F_Lnumber.ok sc_Lnumber (fun vs H Q E h => ?_) (fun cdv A outer s H vs Q E hr h => ?_)
  · obtain ⟨t, rfl, _⟩ := h
    rfl
  obtain ⟨t, rfl, hT, q⟩ := h
  refine ⟨_, (pss_cons (ps_set (i := 1) sc_Lnumber.nd rfl (Or.inl rfl) (pe_call G_Ldigit (hr.mono (by first | decide | omega)) (by rfl) T.m_Ldigit T.F_Ldigit.kp (b_Ldigit T) .nil pass0 (pa_cons (pv 0) (pa_cons pe_int pa_nil))))
    (pss_cons (ps_if (pt_cmpR op_eq (pv 1) pe_int (nomark _)) (pss_one (ps_ret (pe_call G_Ldigit (hr.mono (by first | decide | omega)) (by rfl) T.m_Ldigit T.F_Ldigit.kp (b_Ldigit T) .nil pass0 (pa_cons (pv 0) (pa_cons pe_int pa_nil))))) pss_nil)
    (pss_one (ps_ret (pe_ix ix_list (pe_lst (pa_cons pe_int (pa_cons pe_int (pa_cons pe_int (pa_cons pe_int (pa_cons pe_int pa_nil)))))) (pv 1) (fun _ _ => rfl)))))), ?_⟩
  refine sq_setC (c_call (va_cons (val_var rfl) (va_cons val_c va_nil)) ⟨t, 6, rfl, hT, by decide, by decide, fun way H1 hw b1 hT1 => ?_⟩)
  by_cases h5 : way = 5
  · refine st_seq (st_yes (a_eq (val_var rfl) val_c rfl (by rw [h5]; decide +kernel)) ?_)
    exact c_ret (c_call (va_cons (val_var rfl) (va_cons val_c va_nil)) ⟨t, 1000, rfl, hT1, by decide, by decide, fun n H2 hn b2 hT2 => q _ _ (b1.trans b2) hT2⟩)
  · refine sq_no (a_eq (val_var rfl) val_c rfl (decide_eq_false (by intro e; injection e with e; omega))) ?_
    refine c_ret (c_opL (c_lstV (va_cons val_c (va_cons val_c (va_cons val_c (va_cons val_c (va_cons val_c va_nil))))) (by simp) fun l hl => ?_))
    have e2 := same_new (o := .lst [V.int 0, V.int 1, V.int 1, V.int 2, V.int 3]) hl
    obtain ⟨n, hn⟩ : ∃ n : Int, atI [V.int 0, V.int 1, V.int 1, V.int 2, V.int 3] (way : Int) = some (.int n) := by
      match way, hw, h5 with
      | 0, _, _ => exact ⟨_, rfl⟩
      | 1, _, _ => exact ⟨_, rfl⟩
      | 2, _, _ => exact ⟨_, rfl⟩
      | 3, _, _ => exact ⟨_, rfl⟩
      | 4, _, _ => exact ⟨_, rfl⟩
      | n + 5, h1, h2 => exact absurd h1 (by omega)
    exact c_val (val_var rfl) ⟨l, _, _, _, rfl, rfl, SqL.of upd_same, hn, q _ _ (b1.trans (But.of e2)) (hT1.same e2)⟩
theorem ok_Lleaf (T : Tx K mg ad fd cL cT cN cB) : FnOk P w K mg base CX0 3 (ad 29) (fd 29) ["tape", "known", "around"] (spLeaf K) := by
  have G_Ldigit := ok_Ldigit (P := P) (w := w) (base := base) T
  have G_Lnumber := ok_Lnumber (P := P) (w := w) (base := base) T
  refine T.F_Lleaf.ok sc_Lleaf (fun vs H Q E h => ?_) (fun cdv A outer s H vs Q E hr h => ?_)
  · obtain ⟨t, kn, ar, xs, rfl, _⟩ := h
    rfl
  obtain ⟨t, kn, ar, xs, rfl, hT, hA, q⟩ := h
  refine ⟨_, (pss_cons (ps_if (PW.pt (pw_and (pt_cmpR (op_neD hr.units) (pv 2) (pe_lst pa_nil) (nomark _)) (pw_and1 (pt_cmpR op_gt (pe_call G_Ldigit (hr.mono (by first | decide | omega)) (by rfl) T.m_Ldigit T.F_Ldigit.kp (b_Ldigit T) .nil pass0 (pa_cons (pv 0) (pa_cons pe_int pa_nil))) pe_int (nomark _))))) (pss_one (ps_ret (pe_tup (pa_cons pe_str (pa_cons (pe_ix ix_list (pv 2) (pe_call G_Ldigit (hr.mono (by first | decide | omega)) (by rfl) T.m_Ldigit T.F_Ldigit.kp (b_Ldigit T) .nil pass0 (pa_cons (pv 0) (pa_cons (pe_callB (id := "len") call_len_seq (by rfl) T.z_len (by decide +kernel) (pa_cons (pv 2) pa_nil)) pa_nil))) (fun _ _ => rfl)) pa_nil))))) pss_nil)
    (pss_one (ps_ret (pe_tup (pa_cons pe_str (pa_cons (pe_call G_Lnumber (hr.mono (by first | decide | omega)) (by rfl) T.m_Lnumber T.F_Lnumber.kp (b_Lnumber T) .nil pass0 (pa_cons (pv 0) pa_nil)) pa_nil)))))), ?_⟩
  have num : ∀ H1, BT t H H1 → TP H1 t → tRet (tTup (tCons (tC (.str "number")) (tCons (tCall spNumber [] E0 (tCons (tVar 0) tNil)) tNil))) { nx := fun x H' => Q V.non H', rt := Q } [some (.ref t), some kn, some (.ref ar)] H1 := fun H1 b1 hT1 => by
    refine c_ret (c_tup' (c_cons (c_val val_c (c_cons (c_call (va_cons (val_var rfl) va_nil) ⟨t, rfl, hT1, fun n H2 b2 hT2 => c_nil ⟨sz_of (by simp), fun p hp => ?_⟩⟩)))))
    have e3 := same_new (o := .tup [.str "number", .int n]) hp
    exact q _ _ (.num n) (b1.trans (b2.trans (But.of e3))) (hT2.same e3) (mk_num upd_same) trivial (by simp [tdep])
  refine sq_ifC ?_
  by_cases hx : xs = []
  · refine c_neNil (val_var rfl) hA fun p hp => ⟨false, by rw [decide_eq_true hx]; rfl, iteF ?_⟩
    refine iteF ?_
    exact num _ (But.of (same_new hp)) (hT.same (same_new hp))
  · refine c_neNil (val_var rfl) hA fun p hp => ⟨true, by rw [decide_eq_false hx]; rfl, iteT ?_⟩
    have e1 := same_new (o := .lst []) hp
    refine c_opL (c_call (va_cons (val_var rfl) (va_cons val_c va_nil)) ⟨t, 3, rfl, hT.same e1, by decide, by decide, fun r H2 hr b2 hT2 => c_val val_c ⟨_, _, rfl, rfl, ⟨_, digit_pos, ?_⟩⟩⟩)
    have b12 := (But.of (S := fun b => b = t) e1).trans b2
    have hA2 := (hA.same e1).bt (hT.same e1) b2
    by_cases h0 : 0 < r
    · rw [decide_eq_true h0]
      refine iteT (c_ret (c_tup' (c_cons (c_val val_c (c_cons (c_opL (c_val (val_var rfl) ?_)))))))
      have hl : 0 < xs.length := List.length_pos_iff.mpr hx
      refine c_call (vs := [.ref t, .int xs.length]) (va_cons (val_var rfl) (va_cons (v_is (v_len (val_var rfl) (.inl hA2.sq)) (by rw [List.length_map])) va_nil)) ⟨t, xs.length, rfl, hT2, hl, by have := hA.len; omega, fun k H3 hk b3 hT3 => ?_⟩
      have hA3 := hA2.bt hT2 b3
      refine ⟨ar, _, _, .str xs[k], rfl, rfl, hA3.sq, atI_nat (by rw [List.getElem?_map, List.getElem?_eq_getElem hk]; rfl), c_nil ⟨sz_of (by simp), fun p2 hp2 => ?_⟩⟩
      have e4 := same_new (o := .tup [.str "name", .str xs[k]]) hp2
      exact q _ _ (.nm xs[k]) (b12.trans (b3.trans (But.of e4))) (hT3.same e4) (mk_nm upd_same) (List.getElem_mem hk) (by simp [tdep])
    · rw [decide_eq_false h0]
      exact iteF (num _ b12 hT2)
theorem ok_Lless_one (T : Tx K mg ad fd cL cT cN cB) : FnOk P w K mg base CX0 1 (ad 31) (fd 31) ["around"] (spLessOne K) := by
  refine T.F_Lless_one.ok sc_Lless_one (fun vs H Q E h => ?_) (fun cdv A outer s H vs Q E hr h => ?_)
  · obtain ⟨ar, xs, rfl, _⟩ := h
    rfl
  obtain ⟨ar, xs, rfl, hA, q⟩ := h
  refine ⟨_, (pss_cons (ps_if (pt_cmpR (op_eqD hr.units) (pv 0) (pe_lst pa_nil) (nomark _)) (pss_one (ps_ret (pe_tup (pa_cons pe_str (pa_cons pe_int pa_nil))))) pss_nil)
    (pss_one (ps_ret (pe_tup (pa_cons pe_str (pa_cons (pe_tup (pa_cons pe_str (pa_cons (pe_ix ix_list (pv 0) pe_int (fun _ _ => rfl)) pa_nil))) (pa_cons (pe_tup (pa_cons pe_str (pa_cons pe_int pa_nil))) pa_nil))))))), ?_⟩
  refine sq_ifC ?_
  cases xs with
  | nil =>
    refine c_eqNil (val_var rfl) hA fun p hp => ⟨true, rfl, iteT ?_⟩
    refine c_ret (c_tupV (va_cons val_c (va_cons val_c va_nil)) (by simp) fun p2 hp2 => ?_)
    exact q _ _ (.num 0) ((same_new hp).trans (same_new hp2)) (mk_num upd_same) trivial (by simp [tdep])
  | cons x xs =>
    refine c_eqNil (val_var rfl) hA fun p hp => ⟨false, rfl, iteF ?_⟩
    have e1 := same_new (o := .lst []) hp
    refine c_ret (c_tup' (c_cons (c_val val_c (c_cons (c_tupV (va_cons val_c (va_cons (v_ixL (val_var rfl) val_c (hA.same e1).sq (atI_nat (j := 0) rfl)) va_nil)) (by simp) fun p2 hp2 => c_cons (c_tupV (va_cons val_c (va_cons val_c va_nil)) (by simp) fun p3 hp3 => c_nil ⟨sz_of (by simp), fun p4 hp4 => ?_⟩))))))
    have e2 := same_new (o := .tup [.str "name", .str x]) hp2
    have e3 := same_new (o := .tup [.str "number", .int 1]) hp3
    have e4 := same_new (o := .tup [.str "less", .ref p2, .ref p3]) hp4
    exact q _ _ (.op true (.nm x) (.num 1)) (e1.trans (e2.trans (e3.trans e4))) (mk_op upd_same (dp_mono (e3.trans e4) (mk_nm upd_same)) (dp_mono e4 (mk_num upd_same))) ⟨List.mem_cons_self, trivial⟩ (by simp [tdep])
theorem ok_Lshares (T : Tx K mg ad fd cL cT cN cB) : FnOk P w K mg base CX0 2 (ad 30) (fd 30) ["tape", "room", "many"] spShares := by
  have G_Ldigit := ok_Ldigit (P := P) (w := w) (base := base) T
  refine T.F_Lshares.ok sc_Lshares (fun vs H Q E h => ?_) (fun cdv A outer s H vs Q E hr h => ?_)
  · obtain ⟨t, room, rfl, _⟩ := h
    rfl
  obtain ⟨t, room, rfl, hT, h2, hro, q⟩ := h
  refine ⟨_, (pss_cons (ps_set (i := 3) sc_Lshares.nd rfl (Or.inl rfl) (pe_op op_rep (pe_lst (pa_cons pe_int pa_nil)) (pv 2)))
    (pss_cons (ps_set (i := 4) sc_Lshares.nd rfl (Or.inl rfl) (pe_op op_sub (pv 1) (pv 2)))
    (pss_cons (ps_for PassesOwn.never rfl (pi_range1 (by rfl) T.z_range (pa_cons (pv 2) pa_nil)) (pg_name (i := 5) sc_Lshares.nd rfl (Or.inl rfl))
    (pss_cons (ps_set (i := 6) sc_Lshares.nd rfl (Or.inl rfl) (pe_call G_Ldigit (hr.mono (by first | decide | omega)) (by rfl) T.m_Ldigit T.F_Ldigit.kp (b_Ldigit T) .nil pass0 (pa_cons (pv 0) (pa_cons (pe_op op_add (pv 4) pe_int) pa_nil))))
    (pss_cons (ps_asg (pe_op op_add (pe_ix ix_list (pv 3) (pv 5) (fun _ _ => rfl)) (pv 6)) (pg_sub (pv 3) (pv 5) set_list))
    (pss_one (ps_set (i := 4) sc_Lshares.nd rfl (Or.inl rfl) (pe_op op_sub (pv 4) (pv 6)))))))
    (pss_one (ps_ret (pv 3)))))), ?_⟩
  refine sq_setC (c_opL (c_lstV (va_cons val_c va_nil) (by simp) fun l1 hl1 => c_val (val_var rfl) ⟨l1, 2, _, rfl, rfl, upd_same, by decide, by decide, sz_of (by decide), fun l hl => ?_⟩))
  have e1 := same_new (o := .lst [V.int 1]) hl1
  show tSeq _ _ _ _ (upd (upd H l1 (.lst [V.int 1])) l (.lst [V.int 1, V.int 1]))
  have e2 := same_new (o := .lst [V.int 1, V.int 1]) hl
  have hl2 : upd (upd H l1 (.lst [V.int 1])) l (.lst [V.int 1, V.int 1]) l = some (.lst [V.int 1, V.int 1]) := upd_same
  have hln : H l = none := free_of (fun o ho => ⟨o, e1 _ _ ho⟩) hl
  have e12 := e1.trans e2
  generalize upd (upd H l1 (.lst [V.int 1])) l (.lst [V.int 1, V.int 1]) = H1 at *
  refine sq_set (v_is (v_I0 (val_var rfl) (val_var rfl)) (show V.int ((room : Int) - 2) = .int ((room - 2 : Nat) : Int) by congr 1; omega)) ?_
  refine sq_forR (n := 2) (val_var rfl) (by decide) (fun i σ H' => ∃ (a b lf : Nat) (a5 a6 : Option V), σ = [some (.ref t), some (.int room), some (.int 2), some (.ref l), some (.int lf), a5, a6] ∧ BT t H H' ∧ TP H' t ∧ H' l = some (.lst [.int a, .int b]) ∧ 1 ≤ a ∧ 1 ≤ b ∧ a + b + lf = room) ?_ ?_ ?_
  · exact ⟨1, 1, room - 2, none, none, rfl, But.of e12, hT.same e12, hl2, by omega, by omega, by omega⟩
  · rintro i σ H' hi ⟨a, b, lf, a5, a6, rfl, b1, hT1, hl', ha, hb, hs⟩
    have nlt : l ≠ t := fun z => by obtain ⟨z', h⟩ := hT; rw [← z, hln] at h; cases h
    refine sq_setC (c_call (vs := [.ref t, .int ((lf + 1 : Nat) : Int)]) (va_cons (val_var rfl) (va_cons (v_is (v_I0 (val_var rfl) val_c) (show V.int ((lf : Int) + 1) = _ by congr 1)) va_nil)) ⟨t, lf + 1, rfl, hT1, by omega, by omega, fun mo H2 hm b2 hT2 => ?_⟩)
    have hl2' := b2 _ _ nlt hl'
    have bl : ∀ o, BT t H (upd H2 l o) := fun o => but_drop (S' := fun b => b = l) (But.mut rfl) (fun b hb => .inr (by rw [hb]; exact hln)) (b1.trans b2)
    have tl : ∀ o, TP (upd H2 l o) t := fun o => by obtain ⟨z, h⟩ := hT2; exact ⟨z, by rw [upd_ne (Ne.symm nlt)]; exact h⟩
    have ev : (lf : Int) - (mo : Int) = ((lf - mo : Nat) : Int) := by omega
    match i, hi with
    | 0, _ =>
      refine st_seq (v_I0 (v_ixL (val_var rfl) (val_var rfl) (SqL.of hl2') rfl) (val_var rfl) _ (c_val (val_var rfl) (c_val (val_var rfl) ⟨l, _, 0, 0, rfl, rfl, hl2', rfl, ?_⟩)))
      refine st_set (v_is (v_I0 (val_var rfl) (val_var rfl)) (show V.int ((lf : Int) - (mo : Int)) = _ by rw [ev])) ?_
      exact ⟨a + mo, b, lf - mo, _, _, rfl, bl _, tl _, upd_same, by omega, hb, by omega⟩
    | 1, _ =>
      refine st_seq (v_I0 (v_ixL (val_var rfl) (val_var rfl) (SqL.of hl2') rfl) (val_var rfl) _ (c_val (val_var rfl) (c_val (val_var rfl) ⟨l, _, 1, 1, rfl, rfl, hl2', rfl, ?_⟩)))
      refine st_set (v_is (v_I0 (val_var rfl) (val_var rfl)) (show V.int ((lf : Int) - (mo : Int)) = _ by rw [ev])) ?_
      exact ⟨a, b + mo, lf - mo, _, _, rfl, bl _, tl _, upd_same, ha, by omega, by omega⟩
  · rintro σ H' ⟨a, b, lf, a5, a6, rfl, b1, hT1, hl', ha, hb, hs⟩
    exact st_ret (val_var rfl) (q l H' a b b1 hT1 hl' hln ha hb (by omega))
end
end Wn
end
section
set_option Elab.async false
set_option linter.all false
set_option maxRecDepth 100000
set_option maxHeartbeats 4000000
namespace Wn
open PySem PySem.Spec PyProof.Rows L2
/-- what the makers of a turned book know -/
def knf (el hdd wl pl : Addr) (room : Nat) (st : Bool) : Str → Option V := fun x => if x = "errands" then some (.ref el) else if x = "heads" then some (.ref hdd) else if x = "words" then some (.ref wl) else if x = "room" then some (.int room) else if x = "posts" then some (.ref pl) else if x = "straight" then some (.bl st) else none
structure KN (H : Hp) (t kn el hdd wl pl : Addr) (errs : List Str) (hd : Str → Option Nat) (room : Nat) (st : Bool) (ws ps : List Str) : Prop where
  tp : TP H t
  kna : DK H kn 10 (knf el hdd wl pl room st)
  era : AR H el errs
  ne : errs ≠ []
  hds : DK H hdd 10 (fun f => (hd f).map fun n => V.int (n : Nat))
  har : ∀ f ∈ errs, ∃ n, hd f = some n ∧ n ≤ 4
  wla : AR H wl ws
  pla : AR H pl ps
  lt : ws.length ≤ ps.length
  wp : wl ≠ pl
  we : el ≠ wl ∧ el ≠ pl
  rm : room ≤ 50
  pok : ∀ x ∈ ps, Wokb x = true
theorem DK.bt {H H' : Hp} {t d : Addr} {n : Nat} {f : Str → Option V} (h : DK H d n f) (ht : TP H t) (e : BT t H H') : DK H' d n f := by
  obtain ⟨kvs, a, b, c⟩ := h
  obtain ⟨z, q⟩ := ht
  exact ⟨kvs, e _ _ (fun z => by rw [z, q] at a; cases a) a, b, c⟩
theorem KN.bt {H H' : Hp} {t kn el hdd wl pl : Addr} {errs : List Str} {hd : Str → Option Nat} {room : Nat} {st : Bool} {ws ps : List Str} (h : KN H t kn el hdd wl pl errs hd room st ws ps) (e : BT t H H') (ht : TP H' t) : KN H' t kn el hdd wl pl errs hd room st ws ps :=
  ⟨ht, h.kna.bt h.tp e, h.era.bt h.tp e, h.ne, h.hds.bt h.tp e, h.har, h.wla.bt h.tp e, h.pla.bt h.tp e, h.lt, h.wp, h.we, h.rm, h.pok⟩
theorem KN.same {H H' : Hp} {t kn el hdd wl pl : Addr} {errs : List Str} {hd : Str → Option Nat} {room : Nat} {st : Bool} {ws ps : List Str} (h : KN H t kn el hdd wl pl errs hd room st ws ps) (e : Same H H') : KN H' t kn el hdd wl pl errs hd room st ws ps := h.bt (But.of e) (h.tp.same e)
theorem kn_st {el hdd wl pl : Addr} {room : Nat} {st : Bool} : knf el hdd wl pl room st "straight" = some (.bl st) := by
  unfold knf
  rw [if_neg (by decide +kernel), if_neg (by decide +kernel), if_neg (by decide +kernel), if_neg (by decide +kernel), if_neg (by decide +kernel), if_pos rfl]
theorem kn_er {el hdd wl pl : Addr} {room : Nat} {st : Bool} : knf el hdd wl pl room st "errands" = some (.ref el) := by
  unfold knf
  rw [if_pos rfl]
theorem kn_hd {el hdd wl pl : Addr} {room : Nat} {st : Bool} : knf el hdd wl pl room st "heads" = some (.ref hdd) := by
  unfold knf
  rw [if_neg (by decide +kernel), if_pos rfl]
theorem kn_wl {el hdd wl pl : Addr} {room : Nat} {st : Bool} : knf el hdd wl pl room st "words" = some (.ref wl) := by
  unfold knf
  rw [if_neg (by decide +kernel), if_neg (by decide +kernel), if_pos rfl]
theorem kn_rm {el hdd wl pl : Addr} {room : Nat} {st : Bool} : knf el hdd wl pl room st "room" = some (.int room) := by
  unfold knf
  rw [if_neg (by decide +kernel), if_neg (by decide +kernel), if_neg (by decide +kernel), if_pos rfl]
theorem kn_pl {el hdd wl pl : Addr} {room : Nat} {st : Bool} : knf el hdd wl pl room st "posts" = some (.ref pl) := by
  unfold knf
  rw [if_neg (by decide +kernel), if_neg (by decide +kernel), if_neg (by decide +kernel), if_neg (by decide +kernel), if_pos rfl]
def spSomeHand : Sp := fun vs H Q _ => ∃ (t kn el hdd wl pl : Addr) (errs : List Str) (hd : Str → Option Nat) (room : Nat) (st : Bool) (ws ps : List Str) (ha : Addr) (js : List Str), vs = [.ref t, .ref kn, .ref ha] ∧ KN H t kn el hdd wl pl errs hd room st ws ps ∧ AR H ha js ∧ js ≠ [] ∧
  ∀ j H', BT t H H' → TP H' t → j ∈ js → Q (.str j) H'
def spEnd (K : PySem.W.Frag) : Sp := fun vs H Q _ => ∃ (t kn el hdd wl pl : Addr) (errs : List Str) (hd : Str → Option Nat) (room : Nat) (st : Bool) (ws ps : List Str) (ar : Addr) (xs : List Str) (ha : Addr) (js : List Str), vs = [.ref t, .ref kn, .ref ar, .ref ha] ∧ KN H t kn el hdd wl pl errs hd room st ws ps ∧ AR H ar xs ∧ AR H ha js ∧ js ≠ [] ∧
  ∀ v' H' (p : Pts), BT t H H' → TP H' t → Dp K H' v' (encP p) → WFp ("home" : Str) hd 2 xs js p → cnt p = 1 → Q v' H'
section
variable {P : Program} {w : World} {K : PySem.W.Frag} {mg : Str → Option Value} {base : Heap} {ad : Nat → Addr} {fd : Nat → FuncData} {cL cT cN cB : Addr}
theorem ok_Lsimple (T : Tx K mg ad fd cL cT cN cB) : ∀ d, FnOk P w K mg base CX0 (d + 4) (ad 42) (fd 42) ["tape", "around", "deep"] (spSimple K d) := by
  intro d
  induction d with
  | zero =>
    have G_Ldigit := ok_Ldigit (P := P) (w := w) (base := base) T
    have G_Lleaf := ok_Lleaf (P := P) (w := w) (base := base) T
    have G_Lsimple : FnOk P w K mg base CX0 3 (ad 42) (fd 42) ["tape", "around", "deep"] (fun _ _ _ _ => False) := none_left fun _ _ _ _ h => h
    refine T.F_Lsimple.ok sc_Lsimple (fun vs H Q E h => ?_) (fun cdv A outer s H vs Q E hr h => ?_)
    · obtain ⟨t, ar, xs, rfl, _⟩ := h
      rfl
    obtain ⟨t, ar, xs, rfl, hT, hA, q⟩ := h
    refine ⟨_, (pss_cons (ps_if (PW.pt (pw_or (pt_cmpR op_eq (pv 2) pe_int (nomark _)) (pw_or1 (pt_cmpR op_gt (pe_call G_Ldigit (hr.mono (by first | decide | omega)) (by rfl) T.m_Ldigit T.F_Ldigit.kp (b_Ldigit T) .nil pass0 (pa_cons (pv 0) (pa_cons pe_int pa_nil))) pe_int (nomark _))))) (pss_one (ps_ret (pe_call G_Lleaf (hr.mono (by first | decide | omega)) (by rfl) T.m_Lleaf T.F_Lleaf.kp (b_Lleaf T) .nil pass0 (pa_cons (pv 0) (pa_cons pe_dnewK (pa_cons (pv 1) pa_nil)))))) pss_nil)
    (pss_cons (ps_set (i := 3) sc_Lsimple.nd rfl (Or.inl rfl) (pe_call G_Lsimple (hr.mono (by first | decide | omega)) (by rfl) T.m_Lsimple T.F_Lsimple.kp (b_Lsimple T) .nil pass0 (pa_cons (pv 0) (pa_cons (pv 1) (pa_cons (pe_op op_sub (pv 2) pe_int) pa_nil)))))
    (pss_one (ps_ret (pe_tup (pa_cons (pe_ix ix_list (pe_lst (pa_cons pe_str (pa_cons pe_str pa_nil))) (pe_call G_Ldigit (hr.mono (by first | decide | omega)) (by rfl) T.m_Ldigit T.F_Ldigit.kp (b_Ldigit T) .nil pass0 (pa_cons (pv 0) (pa_cons pe_int pa_nil))) (fun _ _ => rfl)) (pa_cons (pv 3) (pa_cons (pe_call G_Lsimple (hr.mono (by first | decide | omega)) (by rfl) T.m_Lsimple T.F_Lsimple.kp (b_Lsimple T) .nil pass0 (pa_cons (pv 0) (pa_cons (pv 1) (pa_cons (pe_op op_sub (pv 2) pe_int) pa_nil)))) pa_nil)))))))), ?_⟩
    refine sq_ifC (c_orT (a_eq (val_var rfl) val_c rfl (by decide +kernel)) (iteT ?_))
    refine c_ret (c_callL (c_cons (c_val (val_var rfl) (c_cons fun p hp => c_cons (c_val (val_var rfl) (c_nil ?_))))))
    have e1 := same_new (o := .dK []) hp
    exact ⟨t, _, ar, xs, rfl, hT.same e1, hA.same e1, fun v' H' s b hT' hd hw hl => q v' H' s ((But.of e1).trans b) hT' hd hw (by omega)⟩
  | succ d ih =>
    have G_Ldigit := ok_Ldigit (P := P) (w := w) (base := base) T
    have G_Lleaf := ok_Lleaf (P := P) (w := w) (base := base) T
    have G_Lsimple := ih
    refine T.F_Lsimple.ok sc_Lsimple (fun vs H Q E h => ?_) (fun cdv A outer s H vs Q E hr h => ?_)
    · obtain ⟨t, ar, xs, rfl, _⟩ := h
      rfl
    obtain ⟨t, ar, xs, rfl, hT, hA, q⟩ := h
    refine ⟨_, (pss_cons (ps_if (PW.pt (pw_or (pt_cmpR op_eq (pv 2) pe_int (nomark _)) (pw_or1 (pt_cmpR op_gt (pe_call G_Ldigit (hr.mono (by first | decide | omega)) (by rfl) T.m_Ldigit T.F_Ldigit.kp (b_Ldigit T) .nil pass0 (pa_cons (pv 0) (pa_cons pe_int pa_nil))) pe_int (nomark _))))) (pss_one (ps_ret (pe_call G_Lleaf (hr.mono (by first | decide | omega)) (by rfl) T.m_Lleaf T.F_Lleaf.kp (b_Lleaf T) .nil pass0 (pa_cons (pv 0) (pa_cons pe_dnewK (pa_cons (pv 1) pa_nil)))))) pss_nil)
    (pss_cons (ps_set (i := 3) sc_Lsimple.nd rfl (Or.inl rfl) (pe_call G_Lsimple (hr.mono (by first | decide | omega)) (by rfl) T.m_Lsimple T.F_Lsimple.kp (b_Lsimple T) .nil pass0 (pa_cons (pv 0) (pa_cons (pv 1) (pa_cons (pe_op op_sub (pv 2) pe_int) pa_nil)))))
    (pss_one (ps_ret (pe_tup (pa_cons (pe_ix ix_list (pe_lst (pa_cons pe_str (pa_cons pe_str pa_nil))) (pe_call G_Ldigit (hr.mono (by first | decide | omega)) (by rfl) T.m_Ldigit T.F_Ldigit.kp (b_Ldigit T) .nil pass0 (pa_cons (pv 0) (pa_cons pe_int pa_nil))) (fun _ _ => rfl)) (pa_cons (pv 3) (pa_cons (pe_call G_Lsimple (hr.mono (by first | decide | omega)) (by rfl) T.m_Lsimple T.F_Lsimple.kp (b_Lsimple T) .nil pass0 (pa_cons (pv 0) (pa_cons (pv 1) (pa_cons (pe_op op_sub (pv 2) pe_int) pa_nil)))) pa_nil)))))))), ?_⟩
    refine sq_ifC (c_orF (a_eq (val_var rfl) val_c rfl (decide_eq_false (by intro z; injection z with z; omega))) ?_)
    refine c_test (c_opL (c_call (va_cons (val_var rfl) (va_cons val_c va_nil)) ⟨t, 3, rfl, hT, by decide, by decide, fun r H1 hr1 b1 hT1 => c_val val_c ⟨_, _, rfl, rfl, _, digit_pos, ?_⟩⟩))
    have hA1 := hA.bt hT b1
    by_cases h0 : 0 < r
    · rw [decide_eq_true h0]
      refine iteT ?_
      refine c_ret (c_callL (c_cons (c_val (val_var rfl) (c_cons fun p hp => c_cons (c_val (val_var rfl) (c_nil ?_))))))
      have e1 := same_new (o := .dK []) hp
      exact ⟨t, _, ar, xs, rfl, hT1.same e1, hA1.same e1, fun v' H' s b hT' hd hw hl => q v' H' s (b1.trans ((But.of e1).trans b)) hT' hd hw (by omega)⟩
    · rw [decide_eq_false h0]
      refine iteF ?_
      have ev : ((d + 1 : Nat) : Int) - 1 = (d : Int) := by omega
      refine sq_setC (c_call (vs := [.ref t, .ref ar, .int d]) (va_cons (val_var rfl) (va_cons (val_var rfl) (va_cons (v_is (v_I0 (val_var rfl) val_c) (show V.int (((d + 1 : Nat) : Int) - 1) = _ by rw [ev])) va_nil))) ⟨t, ar, xs, rfl, hT1, hA1, fun v1 H2 s1 b2 hT2 hd1 hw1 hl1 => ?_⟩)
      have hA2 := hA1.bt hT1 b2
      refine c_ret (c_tup' (c_cons (c_opL (c_lstV (va_cons val_c (va_cons val_c va_nil)) (by simp) fun l hl => ?_))))
      have e3 := same_new (o := .lst [V.str "plus", V.str "less"]) hl
      have hT3 := hT2.same e3
      refine c_call (va_cons (val_var rfl) (va_cons val_c va_nil)) ⟨t, 2, rfl, hT3, by decide, by decide, fun k H4 hk b4 hT4 => ?_⟩
      have nlt : l ≠ t := fun z => by obtain ⟨z', h⟩ := hT2; rw [← z, hl] at h; cases h
      have hl4 := b4 _ _ nlt upd_same
      obtain ⟨lb, hk2⟩ : ∃ lb : Bool, atI [V.str "plus", V.str "less"] (k : Int) = some (.str (kwO lb)) := by
        match k, hk with
        | 0, _ => exact ⟨false, rfl⟩
        | 1, _ => exact ⟨true, rfl⟩
      refine ⟨l, _, _, _, rfl, rfl, SqL.of hl4, hk2, c_cons (c_val (val_var rfl) (c_cons ?_))⟩
      have b34 := (But.of (S := fun b => b = t) e3).trans b4
      have hA4 := hA2.bt hT2 b34
      refine c_call (vs := [.ref t, .ref ar, .int d]) (va_cons (val_var rfl) (va_cons (val_var rfl) (va_cons (v_is (v_I0 (val_var rfl) val_c) (show V.int (((d + 1 : Nat) : Int) - 1) = _ by rw [ev])) va_nil))) ⟨t, ar, xs, rfl, hT4, hA4, fun v2 H5 s2 b5 hT5 hd2 hw2 hl2 => c_nil ⟨sz_of (by simp), fun p hp => ?_⟩⟩
      have e6 := same_new (o := .tup [.str (kwO lb), v1, v2]) hp
      have b345 := b34.trans (b5.trans (But.of e6))
      refine q _ _ (.op lb s1 s2) (b1.trans (b2.trans b345)) (hT5.same e6) (mk_op upd_same (but_dp b345 hT2.mutS (noL_T _) hd1) (dp_mono e6 hd2)) ⟨hw1, hw2⟩ ?_
      simp only [tdep]
      omega
theorem ok_Lsome_hand (T : Tx K mg ad fd cL cT cN cB) : FnOk P w K mg base CX0 2 (ad 43) (fd 43) ["tape", "known", "hands"] spSomeHand := by
  have G_Ldigit := ok_Ldigit (P := P) (w := w) (base := base) T
  refine T.F_Lsome_hand.ok sc_Lsome_hand (fun vs H Q E h => ?_) (fun cdv A outer s H vs Q E hr h => ?_)
  · obtain ⟨t, kn, el, hdd, wl, pl, errs, hd, room, st, ws, ps, ha, js, rfl, _⟩ := h
    rfl
  obtain ⟨t, kn, el, hdd, wl, pl, errs, hd, room, st, ws, ps, ha, js, rfl, hK, hJ, hne, q⟩ := h
  refine ⟨_, (pss_cons (ps_if (PW.pt (pw_or (pt_val (pe_dget (hu_of hr) (pv 1) pe_str (fun _ _ => rfl))) (pw_or1 (pt_cmpR op_gt (pe_call G_Ldigit (hr.mono (by first | decide | omega)) (by rfl) T.m_Ldigit T.F_Ldigit.kp (b_Ldigit T) .nil pass0 (pa_cons (pv 0) (pa_cons pe_int pa_nil))) pe_int (nomark _))))) (pss_one (ps_ret (pe_ix ix_list (pv 2) (pe_un un_neg pe_int) (fun _ _ => rfl)))) pss_nil)
    (pss_one (ps_ret (pe_ix ix_list (pv 2) (pe_call G_Ldigit (hr.mono (by first | decide | omega)) (by rfl) T.m_Ldigit T.F_Ldigit.kp (b_Ldigit T) .nil pass0 (pa_cons (pv 0) (pa_cons (pe_callB (id := "len") call_len_seq (by rfl) T.z_len (by decide +kernel) (pa_cons (pv 2) pa_nil)) pa_nil))) (fun _ _ => rfl))))), ?_⟩
  have lastC : ∀ H1, BT t H H1 → TP H1 t → tRet (tOp (rIxL K) (tVar 2) (tUn (rU fun i => .int (-i)) (tC (.int 1)))) { nx := fun x H' => Q V.non H', rt := Q } [some (.ref t), some (.ref kn), some (.ref ha)] H1 := fun H1 b1 hT1 => by
    have hJ1 := hJ.bt hK.tp b1
    have e : js = js.dropLast ++ [js.getLast hne] := (List.dropLast_concat_getLast hne).symm
    refine c_ret (c_opL (c_val (val_var rfl) ⟨1, rfl, ?_⟩))
    refine ⟨ha, _, _, .str (js.getLast hne), rfl, rfl, hJ1.sq, ?_, q _ _ b1 hT1 (List.getLast_mem hne)⟩
    have e2 : js.map V.str = js.dropLast.map V.str ++ [V.str (js.getLast hne)] := by
      rw [← List.map_singleton (f := V.str), ← List.map_append, ← e]
    rw [e2]
    exact atI_last _ _
  refine sq_ifC ?_
  cases st with
  | true => exact c_orT (a_val (v_dget (val_var rfl) val_c hK.kna kn_st)) (iteT (lastC H But.refl hK.tp))
  | false =>
    refine c_orF (a_val (v_dget (val_var rfl) val_c hK.kna kn_st)) ?_
    refine c_test (c_opL (c_call (va_cons (val_var rfl) (va_cons val_c va_nil)) ⟨t, 3, rfl, hK.tp, by decide, by decide, fun r H1 hr1 b1 hT1 => c_val val_c ⟨_, _, rfl, rfl, _, digit_pos, ?_⟩⟩))
    by_cases h0 : 0 < r
    · rw [decide_eq_true h0]
      exact iteT (lastC H1 b1 hT1)
    · rw [decide_eq_false h0]
      refine iteF ?_
      have hJ1 := hJ.bt hK.tp b1
      have hl : 0 < js.length := List.length_pos_iff.mpr hne
      refine c_ret (c_opL (c_val (val_var rfl) (c_call (vs := [.ref t, .int js.length]) (va_cons (val_var rfl) (va_cons (v_is (v_len (val_var rfl) (.inl hJ1.sq)) (by rw [List.length_map])) va_nil)) ⟨t, js.length, rfl, hT1, hl, by have := hJ.len; omega, fun k H3 hk b3 hT3 => ?_⟩)))
      have hJ3 := hJ1.bt hT1 b3
      exact ⟨ha, _, _, .str js[k], rfl, rfl, hJ3.sq, atI_nat (by rw [List.getElem?_map, List.getElem?_eq_getElem hk]; rfl), q _ _ (b1.trans b3) hT3 (List.getElem_mem hk)⟩
end
end Wn
end
section
set_option Elab.async false
set_option linter.all false
set_option maxRecDepth 100000
set_option maxHeartbeats 4000000
namespace Wn
open PySem PySem.Spec PyProof.Rows L2
theorem dpa_bt {K : PySem.W.Frag} {H H' : Hp} {t : Addr} {vs : List V} {ss : List Tms} (h : DpAll K H vs (ss.map encT)) (ht : TP H t) (e : BT t H H') : DpAll K H' vs (ss.map encT) := but_dpa e ht.mutS (noLs_Ts _) h
section
variable {P : Program} {w : World} {K : PySem.W.Frag} {mg : Str → Option Value} {base : Heap} {ad : Nat → Addr} {fd : Nat → FuncData} {cL cT cN cB : Addr}
theorem ok_Lend (T : Tx K mg ad fd cL cT cN cB) : FnOk P w K mg base CX0 6 (ad 44) (fd 44) ["tape", "known", "around", "hands"] (spEnd K) := by
  have G_Ldigit := ok_Ldigit (P := P) (w := w) (base := base) T
  have G_Lsome_hand := ok_Lsome_hand (P := P) (w := w) (base := base) T
  have G_Lsimple := ok_Lsimple (P := P) (w := w) (base := base) T 1
  have G_Lless_one := ok_Lless_one (P := P) (w := w) (base := base) T
  refine T.F_Lend.ok sc_Lend (fun vs H Q E h => ?_) (fun cdv A outer s H vs Q E hr h => ?_)
  · obtain ⟨t, kn, el, hdd, wl, pl, errs, hd, room, st, ws, ps, ar, xs, ha, js, rfl, _⟩ := h
    rfl
  obtain ⟨t, kn, el, hdd, wl, pl, errs, hd, room, st, ws, ps, ar, xs, ha, js, rfl, hK, hA, hJ, hne, q⟩ := h
  refine ⟨_, (pss_cons (ps_set (i := 4) sc_Lend.nd rfl (Or.inl rfl) (pe_ix ix_list (pe_dget (hu_of hr) (pv 1) pe_str (fun _ _ => rfl)) (pe_call G_Ldigit (hr.mono (by first | decide | omega)) (by rfl) T.m_Ldigit T.F_Ldigit.kp (b_Ldigit T) .nil pass0 (pa_cons (pv 0) (pa_cons (pe_callB (id := "len") call_len_seq (by rfl) T.z_len (by decide +kernel) (pa_cons (pe_dget (hu_of hr) (pv 1) pe_str (fun _ _ => rfl)) pa_nil)) pa_nil))) (fun _ _ => rfl)))
    (pss_cons (ps_set (i := 5) sc_Lend.nd rfl (Or.inl rfl) (pe_call G_Lsome_hand (hr.mono (by first | decide | omega)) (by rfl) T.m_Lsome_hand T.F_Lsome_hand.kp (b_Lsome_hand T) .nil pass0 (pa_cons (pv 0) (pa_cons (pv 1) (pa_cons (pv 3) pa_nil)))))
    (pss_cons (ps_if (pt_cmpR op_eq (pe_call G_Ldigit (hr.mono (by first | decide | omega)) (by rfl) T.m_Ldigit T.F_Ldigit.kp (b_Ldigit T) .nil pass0 (pa_cons (pv 0) (pa_cons pe_int pa_nil))) pe_int (nomark _)) (pss_one (ps_ret (pe_tup (pa_cons pe_str (pa_cons (pv 5) (pa_cons (pe_call G_Lsimple (hr.mono (by first | decide | omega)) (by rfl) T.m_Lsimple T.F_Lsimple.kp (b_Lsimple T) .nil pass0 (pa_cons (pv 0) (pa_cons (pv 2) (pa_cons pe_int pa_nil)))) pa_nil)))))) pss_nil)
    (pss_cons (ps_set (i := 6) sc_Lend.nd rfl (Or.inl rfl) (pe_lst pa_nil))
    (pss_cons (ps_for PassesOwn.never rfl (pi_range1 (by rfl) T.z_range (pa_cons (pe_dget (hu_of hr) (pe_dget (hu_of hr) (pv 1) pe_str (fun _ _ => rfl)) (pv 4) (fun _ _ => rfl)) pa_nil)) (pg_name (i := 7) sc_Lend.nd rfl (Or.inl rfl))
    (pss_one (ps_if (PW.pt (pw_and (pt_cmpR op_eq (pv 7) pe_int (nomark _)) (pw_and1 (pt_cmpR op_gt (pe_call G_Ldigit (hr.mono (by first | decide | omega)) (by rfl) T.m_Ldigit T.F_Ldigit.kp (b_Ldigit T) .nil pass0 (pa_cons (pv 0) (pa_cons pe_int pa_nil))) pe_int (nomark _))))) (pss_one (ps_expr (pe_bm PySem.F.plainAttrs_list PySem.F.slot_list_append PySem.F.type_list_append mt_append (pv 6) (pa_cons (pe_call G_Lless_one (hr.mono (by first | decide | omega)) (by rfl) T.m_Lless_one T.F_Lless_one.kp (b_Lless_one T) .nil pass0 (pa_cons (pv 2) pa_nil)) pa_nil)))) (pss_one (ps_expr (pe_bm PySem.F.plainAttrs_list PySem.F.slot_list_append PySem.F.type_list_append mt_append (pv 6) (pa_cons (pe_call G_Lsimple (hr.mono (by first | decide | omega)) (by rfl) T.m_Lsimple T.F_Lsimple.kp (b_Lsimple T) .nil pass0 (pa_cons (pv 0) (pa_cons (pv 2) (pa_cons pe_int pa_nil)))) pa_nil)))))))
    (pss_one (ps_ret (pe_tup (pa_cons pe_str (pa_cons (pv 4) (pa_cons (pe_callTy (T := "tuple") call_tuple_of (by rfl) T.z_tuple (by decide +kernel) (pa_cons (pv 6) pa_nil)) (pa_cons (pv 5) pa_nil)))))))))))), ?_⟩
  have he : 0 < errs.length := List.length_pos_iff.mpr hK.ne
  refine sq_setC (c_opL (c_val (v_dget (val_var rfl) val_c hK.kna kn_er) (c_call (vs := [.ref t, .int errs.length]) (va_cons (val_var rfl) (va_cons (v_is (v_len (v_dget (val_var rfl) val_c hK.kna kn_er) (.inl hK.era.sq)) (by rw [List.length_map])) va_nil)) ⟨t, errs.length, rfl, hK.tp, he, by have := hK.era.len; omega, fun k H1 hk b1 hT1 => ?_⟩)))
  have hK1 := hK.bt b1 hT1
  have hA1 := hA.bt hK.tp b1
  have hJ1 := hJ.bt hK.tp b1
  refine ⟨el, _, _, .str errs[k], rfl, rfl, hK1.era.sq, atI_nat (by rw [List.getElem?_map, List.getElem?_eq_getElem hk]; rfl), ?_⟩
  have hfm : errs[k] ∈ errs := List.getElem_mem hk
  generalize errs[k] = f at *
  obtain ⟨n, hdf, hn4⟩ := hK.har f hfm
  refine sq_setC (c_call (va_cons (val_var rfl) (va_cons (val_var rfl) (va_cons (val_var rfl) va_nil))) ⟨t, kn, el, hdd, wl, pl, errs, hd, room, st, ws, ps, ha, js, rfl, hK1, hJ1, hne, fun j H2 b2 hT2 hj => ?_⟩)
  have hK2 := hK1.bt b2 hT2
  have hA2 := hA1.bt hT1 b2
  have b12 := b1.trans b2
  refine sq_ifC (c_test (c_opL (c_call (va_cons (val_var rfl) (va_cons val_c va_nil)) ⟨t, 2, rfl, hT2, by decide, by decide, fun r H3 hr3 b3 hT3 => c_val val_c ⟨rfl, _, rfl, ?_⟩⟩)))
  have hK3 := hK2.bt b3 hT3
  have hA3 := hA2.bt hT2 b3
  have b13 := b12.trans b3
  by_cases h0 : r = 0
  · rw [decide_eq_true (by rw [h0]; rfl)]
    refine iteT (c_ret (c_tup' (c_cons (c_val val_c (c_cons (c_val (val_var rfl) (c_cons ?_)))))))
    refine c_call (va_cons (val_var rfl) (va_cons (val_var rfl) (va_cons val_c va_nil))) ⟨t, ar, xs, rfl, hT3, hA3, fun v1 H4 s1 b4 hT4 hd1 hw1 hl1 => c_nil ⟨sz_of (by simp), fun p hp => ?_⟩⟩
    have e5 := same_new (o := .tup [.str "give", .str j, v1]) hp
    exact q _ _ (.give j s1) (b13.trans (b4.trans (But.of e5))) (hT4.same e5) (.tup (SqT.of upd_same) (.cons (.str _) (.cons (.str _) (.cons (dp_mono e5 hd1) .nil)))) ⟨hw1, hl1, hj⟩ rfl
  · rw [decide_eq_false (by intro z; injection z with z; omega)]
    refine iteF ?_
    show tSeq _ _ _ _ _
    refine sq_setC (c_lstV va_nil (by simp) fun sl hsl => ?_)
    have e4 := same_new (o := .lst []) hsl
    have hslH : H sl = none := free_of (fun o ho => by
      by_cases ht : sl = t
      · obtain ⟨z, h⟩ := hT3; exact ⟨_, by rw [ht]; exact h⟩
      · exact ⟨o, b13 _ _ ht ho⟩) hsl
    have hsl4 : upd H3 sl (.lst []) sl = some (.lst []) := upd_same
    have hK4 := hK3.same e4
    have hA4 := hA3.same e4
    have b14 := b13.trans (But.of (S := fun b => b = t) e4)
    generalize upd H3 sl (.lst []) = H4 at *
    have nst : sl ≠ t := fun z => by obtain ⟨z', h⟩ := hT3; rw [← z, hsl] at h; cases h
    refine sq_forR (n := n) (v_dget (v_dget (val_var rfl) val_c hK4.kna kn_hd) (val_var rfl) hK4.hds (by rw [hdf]; rfl)) (by omega) (fun i σ H' => ∃ (acc : List V) (ss : List Tms) (a7 : Option V), σ = [some (.ref t), some (.ref kn), some (.ref ar), some (.ref ha), some (.str f), some (.str j), some (.ref sl), a7] ∧ BT t H H' ∧ TP H' t ∧ AR H' ar xs ∧ H' sl = some (.lst acc) ∧ DpAll K H' acc (ss.map encT) ∧ ss.length = i ∧ ∀ s ∈ ss, WFt xs s ∧ tdep s ≤ 2) ?_ ?_ ?_
    · exact ⟨[], [], none, rfl, b14, hK4.tp, hA4, hsl4, .nil, rfl, fun s h => by cases h⟩
    · rintro i σ H' hi ⟨acc, ss, a7, rfl, b5, hT5, hA5, hsl5, hacc, hlen, hss⟩
      have lacc : acc.length = i := by rw [dpa_length hacc, List.length_map, hlen]
      -- one more
      have more : ∀ (v1 : V) (H6 : Hp) (s1 : Tms) (R : L2.St → Hp → Prop), BT t H' H6 → TP H6 t → Dp K H6 v1 (encT s1) → WFt xs s1 → tdep s1 ≤ 2 →
          (∀ H7, (∃ (acc : List V) (ss : List Tms) (a7 : Option V), [some (V.ref t), some (.ref kn), some (.ref ar), some (.ref ha), some (.str f), some (.str j), some (.ref sl), some (.int i)] = [some (.ref t), some (.ref kn), some (.ref ar), some (.ref ha), some (.str f), some (.str j), some (.ref sl), a7] ∧ BT t H H7 ∧ TP H7 t ∧ AR H7 ar xs ∧ H7 sl = some (.lst acc) ∧ DpAll K H7 acc (ss.map encT) ∧ ss.length = i + 1 ∧ ∀ s ∈ ss, WFt xs s ∧ tdep s ≤ 2) → R [some (V.ref t), some (.ref kn), some (.ref ar), some (.ref ha), some (.str f), some (.str j), some (.ref sl), some (.int i)] H7) →
          rAppend (.ref sl) [v1] H6 (fun _ H7 => R [some (V.ref t), some (.ref kn), some (.ref ar), some (.ref ha), some (.str f), some (.str j), some (.ref sl), some (.int i)] H7) := fun v1 H6 s1 R b6 hT6 hd1 hw1 hl1 k7 => by
        have hsl6 := b6 _ _ nst hsl5
        refine ⟨sl, acc, v1, rfl, rfl, hsl6, sz_lt (by omega), k7 _ ?_⟩
        have hA6 := hA5.bt hT5 b6
        have nas : ar ≠ sl := fun z => by rw [z] at hA; rw [hA.at_] at hslH; cases hslH
        have bm : But (fun b => b = sl) H6 (upd H6 sl (.lst (acc ++ [v1]))) := But.mut rfl
        have ms : MutS (fun b => b = sl) H6 := mutS1 (by rw [hsl6]; trivial)
        refine ⟨acc ++ [v1], ss ++ [s1], _, rfl, but_drop bm (fun b hb => .inr (by rw [hb]; exact hslH)) (b5.trans b6), ?_, ⟨by rw [upd_ne nas]; exact hA6.at_, hA6.len, hA6.ok⟩, upd_same, ?_, by simp [hlen], ?_⟩
        · obtain ⟨z, h⟩ := hT6; exact ⟨z, by rw [upd_ne (Ne.symm nst)]; exact h⟩
        · rw [List.map_append]
          exact dpa_snoc (but_dpa bm ms (noLs_Ts _) (dpa_bt hacc hT5 b6)) (but_dp bm ms (noL_T _) hd1)
        · intro s hs
          rcases List.mem_append.mp hs with hs | hs
          · exact hss s hs
          · rw [List.mem_singleton.mp hs]; exact ⟨hw1, hl1⟩
      have simp1 : ∀ (H6 : Hp) (R : L2.St → Hp → Prop), BT t H' H6 → TP H6 t →
          (∀ H7, (∃ (acc : List V) (ss : List Tms) (a7 : Option V), [some (V.ref t), some (.ref kn), some (.ref ar), some (.ref ha), some (.str f), some (.str j), some (.ref sl), some (.int i)] = [some (.ref t), some (.ref kn), some (.ref ar), some (.ref ha), some (.str f), some (.str j), some (.ref sl), a7] ∧ BT t H H7 ∧ TP H7 t ∧ AR H7 ar xs ∧ H7 sl = some (.lst acc) ∧ DpAll K H7 acc (ss.map encT) ∧ ss.length = i + 1 ∧ ∀ s ∈ ss, WFt xs s ∧ tdep s ≤ 2) → R [some (V.ref t), some (.ref kn), some (.ref ar), some (.ref ha), some (.str f), some (.str j), some (.ref sl), some (.int i)] H7) →
          (spSimple K 1) [.ref t, .ref ar, .int 1] H6 (fun v1 H8 => rAppend (.ref sl) [v1] H8 (fun _ H7 => R [some (V.ref t), some (.ref kn), some (.ref ar), some (.ref ha), some (.str f), some (.str j), some (.ref sl), some (.int i)] H7)) E0 := fun H6 R b6 hT6 k7 =>
        ⟨t, ar, xs, rfl, hT6, hA5.bt hT5 b6, fun v1 H8 s1 b8 hT8 hd1 hw1 hl1 => more v1 H8 s1 R (b6.trans b8) hT8 hd1 hw1 hl1 k7⟩
      refine c_ifC ?_
      by_cases hi0 : i = 0
      · refine c_andT (a_eq (val_var rfl) val_c rfl (by rw [hi0]; decide +kernel)) ?_
        refine c_test (c_opL (c_call (va_cons (val_var rfl) (va_cons val_c va_nil)) ⟨t, 4, rfl, hT5, by decide, by decide, fun r6 H6 hr6 b6 hT6 => c_val val_c ⟨_, _, rfl, rfl, _, digit_pos, ?_⟩⟩))
        have hsl6 := b6 _ _ nst hsl5
        by_cases h6 : 0 < r6
        · rw [decide_eq_true h6]
          refine iteT (c_drop (c_bm (val_var rfl) ⟨_, SqL.of hsl6⟩ (c_cons (c_call (va_cons (val_var rfl) va_nil) ⟨ar, xs, rfl, hA5.bt hT5 b6, fun v1 H7 s1 e7 hd1 hw1 hl1 => c_nil ?_⟩))))
          exact more v1 H7 s1 _ (b6.trans (But.of e7)) (hT6.same e7) hd1 hw1 hl1 (fun H7 z => z)
        · rw [decide_eq_false h6]
          exact iteF (c_drop (c_bm (val_var rfl) ⟨_, SqL.of hsl6⟩ (c_cons (c_call (va_cons (val_var rfl) (va_cons (val_var rfl) (va_cons val_c va_nil))) (simp1 H6 _ b6 hT6 (fun H7 z => z))))))
      · refine c_andF (a_eq (val_var rfl) val_c rfl (decide_eq_false (by intro z; injection z with z; omega))) (iteF ?_)
        exact c_drop (c_bm (val_var rfl) ⟨_, SqL.of hsl5⟩ (c_cons (c_call (va_cons (val_var rfl) (va_cons (val_var rfl) (va_cons val_c va_nil))) (simp1 H' _ But.refl hT5 (fun H7 z => z)))))
    · rintro σ H' ⟨acc, ss, a7, rfl, b5, hT5, hA5, hsl5, hacc, hlen, hss⟩
      refine c_ret (c_tup' (c_cons (c_val val_c (c_cons (c_val (val_var rfl) (c_cons (c_cbL (c_cons (c_val (val_var rfl) (c_nil ⟨sl, _, rfl, .inl ⟨SqL.of hsl5, fun tp htp => c_cons (c_val (val_var rfl) (c_nil ⟨sz_of (by simp), fun p hp => ?_⟩))⟩⟩))))))))))
      have e6 := same_new (o := .tup acc) htp
      have e7 := same_new (o := .tup [.str "ask", .str f, .ref tp, .str j]) hp
      exact q _ _ (.ask f ss j) (b5.trans (But.of (e6.trans e7))) (hT5.same (e6.trans e7)) (.tup (SqT.of upd_same) (.cons (.str _) (.cons (.str _) (.cons (.tup (same_tup e7 (SqT.of upd_same)) (dpa_mono (e6.trans e7) hacc)) (.cons (.str _) .nil)))))
        ⟨hss, by rw [hdf, hlen], hj⟩ rfl
end
end Wn
end
section
set_option Elab.async false
set_option linter.all false
set_option maxRecDepth 100000
set_option maxHeartbeats 4000000
namespace Wn
open PySem PySem.Spec PyProof.Rows L2
abbrev BW (t wl pl : Addr) (H H' : Hp) : Prop := But (fun b => b = t ∨ b = wl ∨ b = pl) H H'
theorem BW.of {t wl pl : Addr} {H H' : Hp} (h : BT t H H') : BW t wl pl H H' := h.sub fun b e => .inl e
theorem AR.mut {H : Hp} {a : Addr} {xs : List Str} (h : AR H a xs) : Mut (H a) := by rw [h.at_]; trivial
theorem KN.mutS {H : Hp} {t kn el hdd wl pl : Addr} {errs : List Str} {hd : Str → Option Nat} {room : Nat} {st : Bool} {ws ps : List Str} (h : KN H t kn el hdd wl pl errs hd room st ws ps) : MutS (fun b => b = t ∨ b = wl ∨ b = pl) H := fun b e => by
  rcases e with e | e | e
  · rw [e]; exact h.tp.mut
  · rw [e]; exact h.wla.mut
  · rw [e]; exact h.pla.mut
/-- a list of words that is none of the makers' own -/
structure LA (H : Hp) (t wl pl a : Addr) (xs : List Str) : Prop where
  ar : AR H a xs
  n1 : a ≠ wl
  n2 : a ≠ pl
theorem LA.bw {H H' : Hp} {t wl pl a : Addr} {xs : List Str} (h : LA H t wl pl a xs) (ht : TP H t) (e : BW t wl pl H H') : LA H' t wl pl a xs :=
  ⟨⟨e _ _ (fun z => z.elim (tp_ne ht h.ar.at_) fun z => z.elim h.n1 h.n2) h.ar.at_, h.ar.len, h.ar.ok⟩, h.n1, h.n2⟩
theorem LA.same {H H' : Hp} {t wl pl a : Addr} {xs : List Str} (h : LA H t wl pl a xs) (e : Same H H') : LA H' t wl pl a xs := ⟨h.ar.same e, h.n1, h.n2⟩
theorem dk_upd {H : Hp} {d a : Addr} {n : Nat} {f : Str → Option V} {o : HO} {xs : List V} (h : DK H d n f) (ha : H a = some (.lst xs)) : DK (upd H a o) d n f := by
  obtain ⟨kvs, e, l, c⟩ := h
  exact ⟨kvs, by rw [upd_ne (fun z => by rw [z, ha] at e; cases e)]; exact e, l, c⟩
theorem AR.upd {H : Hp} {a b : Addr} {xs : List Str} {o : HO} (h : AR H a xs) (n : a ≠ b) : AR (upd H b o) a xs := ⟨by rw [upd_ne n]; exact h.at_, h.len, h.ok⟩
theorem map_dropLast {xs : List Str} : (xs.map V.str).dropLast = xs.dropLast.map V.str := by simp
theorem KN.popW {H : Hp} {t kn el hdd wl pl : Addr} {errs : List Str} {hd : Str → Option Nat} {room : Nat} {st : Bool} {ws ps : List Str} (h : KN H t kn el hdd wl pl errs hd room st ws ps) : KN (upd H wl (.lst (ws.map V.str).dropLast)) t kn el hdd wl pl errs hd room st ws.dropLast ps := by
  have nt := tp_ne h.tp h.wla.at_
  refine ⟨?_, dk_upd h.kna h.wla.at_, h.era.upd h.we.1, h.ne, dk_upd h.hds h.wla.at_, h.har, ⟨by rw [upd_same, map_dropLast], by have := h.wla.len; rw [List.length_dropLast]; omega, fun x hx => h.wla.ok x ((List.dropLast_sublist _).subset hx)⟩, h.pla.upd (Ne.symm h.wp), by have := h.lt; rw [List.length_dropLast]; omega, h.wp, h.we, h.rm, h.pok⟩
  obtain ⟨z, q⟩ := h.tp
  exact ⟨z, by rw [upd_ne (Ne.symm nt)]; exact q⟩
theorem KN.popP {H : Hp} {t kn el hdd wl pl : Addr} {errs : List Str} {hd : Str → Option Nat} {room : Nat} {st : Bool} {ws ps : List Str} (h : KN H t kn el hdd wl pl errs hd room st ws ps) (l : ws.length + 1 ≤ ps.length) : KN (upd H pl (.lst (ps.map V.str).dropLast)) t kn el hdd wl pl errs hd room st ws ps.dropLast := by
  have nt := tp_ne h.tp h.pla.at_
  refine ⟨?_, dk_upd h.kna h.pla.at_, h.era.upd h.we.2, h.ne, dk_upd h.hds h.pla.at_, h.har, h.wla.upd h.wp, ⟨by rw [upd_same, map_dropLast], by have := h.pla.len; rw [List.length_dropLast]; omega, fun x hx => h.pla.ok x ((List.dropLast_sublist _).subset hx)⟩, by rw [List.length_dropLast]; omega, h.wp, h.we, h.rm, fun x hx => h.pok x ((List.dropLast_sublist _).subset hx)⟩
  obtain ⟨z, q⟩ := h.tp
  exact ⟨z, by rw [upd_ne (Ne.symm nt)]; exact q⟩
/-- the last word -/
theorem last_of {xs : List Str} (h : xs ≠ []) : ∃ x, (xs.map V.str)[(xs.map V.str).length - 1]? = some (.str x) ∧ x ∈ xs := by
  refine ⟨xs.getLast h, ?_, List.getLast_mem h⟩
  rw [List.length_map, List.getElem?_map, ← List.getLast?_eq_getElem?, List.getLast?_eq_some_getLast h]
  rfl
def spPart (K : PySem.W.Frag) (d : Nat) : Sp := fun vs H Q _ => ∃ (t kn el hdd wl pl : Addr) (errs : List Str) (hd : Str → Option Nat) (room : Nat) (st : Bool) (ws ps : List Str) (ar : Addr) (xs : List Str) (ha : Addr) (js : List Str) (r : Nat), vs = [.ref t, .ref kn, .ref ar, .ref ha, .int r, .int d] ∧ KN H t kn el hdd wl pl errs hd room st ws ps ∧ LA H t wl pl ar xs ∧ LA H t wl pl ha js ∧ js ≠ [] ∧ 1 ≤ r ∧ r ≤ 50 ∧
  xs.length + d ≤ 100 ∧ js.length + d ≤ 100 ∧
  ∀ v' H' (p : Pts) ws' ps', BW t wl pl H H' → KN H' t kn el hdd wl pl errs hd room st ws' ps' → Dp K H' v' (encP p) → WFp ("home" : Str) hd 2 xs js p → cnt p + 1 ≤ 2 * r → Q v' H'
theorem wf_tail {hd : Str → Option Nat} {xs js : List Str} {x : Str} {p : Pts} (h : WFp ("home" : Str) hd 2 (xs ++ [x]) js p) : WFp ("home" : Str) hd 2 (x :: xs) js p := h.mono (fun y hy => by
    rcases List.mem_append.mp hy with q | q
    · exact List.mem_cons_of_mem _ q
    · rw [List.mem_singleton.mp q]; exact List.mem_cons_self) (fun y hy => hy)
theorem wf_tailJ {hd : Str → Option Nat} {xs js : List Str} {j : Str} {p : Pts} (h : WFp ("home" : Str) hd 2 xs (js ++ [j]) p) : WFp ("home" : Str) hd 2 xs (j :: js) p := h.mono (fun y hy => hy) (fun y hy => by
    rcases List.mem_append.mp hy with q | q
    · exact List.mem_cons_of_mem _ q
    · rw [List.mem_singleton.mp q]; exact List.mem_cons_self)
/-- a list and one more word -/
theorem c_snoc {σ : L2.St} {H : Hp} {ta tb : TE} {a : Addr} {xs : List Str} {x : Str} {Q : VK} {t wl pl : Addr} (ha : Val ta σ H (.ref a)) (hb : Val tb σ H (.str x)) (h : LA H t wl pl a xs) (hx : Strk x = true) (hl : xs.length ≤ 100) (ht : TP H t) (hw : H wl ≠ none) (hp : H pl ≠ none)
    (q : ∀ p H', Same H H' → LA H' t wl pl p (xs ++ [x]) → Q (.ref p) H') : tOp rCat ta (tLst (tCons tb tNil)) σ H Q := by
  refine c_opL (ha _ (c_lstV (va_cons hb va_nil) (by simp) fun l hl1 => ?_))
  have e1 := same_new (o := .lst [V.str x]) hl1
  refine ⟨a, l, _, _, rfl, rfl, e1 _ _ h.ar.at_, upd_same, sz_of (by rw [List.length_map]; simp; omega), fun p hp1 => ?_⟩
  have e2 := same_new (o := .lst (xs.map V.str ++ [V.str x])) hp1
  have hn : H p = none := free_of (fun o ho => ⟨o, e1 _ _ ho⟩) hp1
  refine q p _ (e1.trans e2) ⟨⟨by rw [upd_same, List.map_append]; rfl, by rw [List.length_append]; simp; omega, fun y hy => ?_⟩, fun z => hw (by rw [← z]; exact hn), fun z => hp (by rw [← z]; exact hn)⟩
  rcases List.mem_append.mp hy with q | q
  · exact h.ar.ok y q
  · rw [List.mem_singleton.mp q]; exact hx
section
variable {P : Program} {w : World} {K : PySem.W.Frag} {mg : Str → Option Value} {base : Heap} {ad : Nat → Addr} {fd : Nat → FuncData} {cL cT cN cB : Addr}
theorem ok_Lpart (T : Tx K mg ad fd cL cT cN cB) : ∀ d, FnOk P w K mg base CX0 (d + 7) (ad 45) (fd 45) ["tape", "known", "around", "hands", "room", "deep"] (spPart K d) := by
  have G_Ldigit := ok_Ldigit (P := P) (w := w) (base := base) T
  have G_Lend := ok_Lend (P := P) (w := w) (base := base) T
  have G_Lshares := ok_Lshares (P := P) (w := w) (base := base) T
  have G_Lsome_hand := ok_Lsome_hand (P := P) (w := w) (base := base) T
  have G_Lsimple := ok_Lsimple (P := P) (w := w) (base := base) T 1
  intro d
  induction d with
  | zero =>
    have G_Lpart : FnOk P w K mg base CX0 6 (ad 45) (fd 45) ["tape", "known", "around", "hands", "room", "deep"] (fun _ _ _ _ => False) := none_left fun _ _ _ _ h => h
    refine T.F_Lpart.ok sc_Lpart (fun vs H Q E h => ?_) (fun cdv A outer s H vs Q E hr h => ?_)
    · obtain ⟨t, kn, el, hdd, wl, pl, errs, hd, room, st, ws, ps, ar, xs, ha, js, r, rfl, _⟩ := h
      rfl
    obtain ⟨t, kn, el, hdd, wl, pl, errs, hd, room, st, ws, ps, ar, xs, ha, js, r, rfl, hK, hA, hJ, hne, hr1, hr2, hxl, hjl, q⟩ := h
    refine ⟨_, (pss_cons (ps_if (PW.pt (pw_or (pt_cmpR op_lt (pv 4) pe_int (nomark _)) (pw_or1 (pt_cmpR op_eq (pv 5) pe_int (nomark _))))) (pss_one (ps_ret (pe_call G_Lend (hr.mono (by first | decide | omega)) (by rfl) T.m_Lend T.F_Lend.kp (b_Lend T) .nil pass0 (pa_cons (pv 0) (pa_cons (pv 1) (pa_cons (pv 2) (pa_cons (pv 3) pa_nil))))))) pss_nil)
    (pss_cons (ps_set (i := 6) sc_Lpart.nd rfl (Or.inl rfl) (pe_ix ix_list (pe_lst (pa_cons pe_str (pa_cons pe_str (pa_cons pe_str (pa_cons pe_str (pa_cons pe_str (pa_cons pe_str (pa_cons pe_str (pa_cons pe_str pa_nil))))))))) (pe_call G_Ldigit (hr.mono (by first | decide | omega)) (by rfl) T.m_Ldigit T.F_Ldigit.kp (b_Ldigit T) .nil pass0 (pa_cons (pv 0) (pa_cons pe_int pa_nil))) (fun _ _ => rfl)))
    (pss_cons (ps_if (pt_cmpR op_eq (pv 6) pe_str (nomark _)) (pss_cons (ps_set (i := 7) sc_Lpart.nd rfl (Or.inl rfl) (pe_call G_Lsimple (hr.mono (by first | decide | omega)) (by rfl) T.m_Lsimple T.F_Lsimple.kp (b_Lsimple T) .nil pass0 (pa_cons (pv 0) (pa_cons (pv 2) (pa_cons pe_int pa_nil)))))
    (pss_cons (ps_set (i := 8) sc_Lpart.nd rfl (Or.inl rfl) (pe_call G_Lshares (hr.mono (by first | decide | omega)) (by rfl) T.m_Lshares T.F_Lshares.kp (b_Lshares T) .nil pass0 (pa_cons (pv 0) (pa_cons (pe_op op_sub (pv 4) pe_int) (pa_cons pe_int pa_nil)))))
    (pss_cons (ps_set (i := 9) sc_Lpart.nd rfl (Or.inl rfl) (pe_call G_Lpart (hr.mono (by first | decide | omega)) (by rfl) T.m_Lpart T.F_Lpart.kp (b_Lpart T) .nil pass0 (pa_cons (pv 0) (pa_cons (pv 1) (pa_cons (pv 2) (pa_cons (pv 3) (pa_cons (pe_ix ix_list (pv 8) pe_int (fun _ _ => rfl)) (pa_cons (pe_op op_sub (pv 5) pe_int) pa_nil))))))))
    (pss_one (ps_ret (pe_tup (pa_cons pe_str (pa_cons (pv 7) (pa_cons (pv 9) (pa_cons (pe_call G_Lpart (hr.mono (by first | decide | omega)) (by rfl) T.m_Lpart T.F_Lpart.kp (b_Lpart T) .nil pass0 (pa_cons (pv 0) (pa_cons (pv 1) (pa_cons (pv 2) (pa_cons (pv 3) (pa_cons (pe_ix ix_list (pv 8) pe_int (fun _ _ => rfl)) (pa_cons (pe_op op_sub (pv 5) pe_int) pa_nil))))))) pa_nil)))))))))) pss_nil)
    (pss_cons (ps_if (pt_cmpR (op_eqD hr.units) (pe_dget (hu_of hr) (pv 1) pe_str (fun _ _ => rfl)) (pe_lst pa_nil) (nomark _)) (pss_one (ps_ret (pe_call G_Lend (hr.mono (by first | decide | omega)) (by rfl) T.m_Lend T.F_Lend.kp (b_Lend T) .nil pass0 (pa_cons (pv 0) (pa_cons (pv 1) (pa_cons (pv 2) (pa_cons (pv 3) pa_nil))))))) pss_nil)
    (pss_cons (ps_set (i := 10) sc_Lpart.nd rfl (Or.inl rfl) (pe_bm0 PySem.F.plainAttrs_list PySem.F.slot_list_pop PySem.F.type_list_pop mt_pop (pe_dget (hu_of hr) (pv 1) pe_str (fun _ _ => rfl))))
    (pss_cons (ps_if (pt_cmpR op_eq (pv 6) pe_str (nomark _)) (pss_cons (ps_set (i := 11) sc_Lpart.nd rfl (Or.inl rfl) (pe_bm0 PySem.F.plainAttrs_list PySem.F.slot_list_pop PySem.F.type_list_pop mt_pop (pe_dget (hu_of hr) (pv 1) pe_str (fun _ _ => rfl))))
    (pss_cons (ps_set (i := 8) sc_Lpart.nd rfl (Or.inl rfl) (pe_call G_Lshares (hr.mono (by first | decide | omega)) (by rfl) T.m_Lshares T.F_Lshares.kp (b_Lshares T) .nil pass0 (pa_cons (pv 0) (pa_cons (pe_op op_sub (pv 4) pe_int) (pa_cons pe_int pa_nil)))))
    (pss_cons (ps_set (i := 9) sc_Lpart.nd rfl (Or.inl rfl) (pe_call G_Lpart (hr.mono (by first | decide | omega)) (by rfl) T.m_Lpart T.F_Lpart.kp (b_Lpart T) .nil pass0 (pa_cons (pv 0) (pa_cons (pv 1) (pa_cons (pe_op op_cat (pv 2) (pe_lst (pa_cons (pv 10) pa_nil))) (pa_cons (pv 3) (pa_cons (pe_ix ix_list (pv 8) pe_int (fun _ _ => rfl)) (pa_cons (pe_op op_sub (pv 5) pe_int) pa_nil))))))))
    (pss_cons (ps_if (pt_cmpR op_eq (pe_call G_Ldigit (hr.mono (by first | decide | omega)) (by rfl) T.m_Ldigit T.F_Ldigit.kp (b_Ldigit T) .nil pass0 (pa_cons (pv 0) (pa_cons pe_int pa_nil))) pe_int (nomark _)) (pss_one (ps_set (i := 9) sc_Lpart.nd rfl (Or.inl rfl) (pe_tup (pa_cons pe_str (pa_cons (pe_call G_Lsome_hand (hr.mono (by first | decide | omega)) (by rfl) T.m_Lsome_hand T.F_Lsome_hand.kp (b_Lsome_hand T) .nil pass0 (pa_cons (pv 0) (pa_cons (pv 1) (pa_cons (pv 3) pa_nil)))) (pa_cons (pe_tup (pa_cons pe_str (pa_cons (pv 10) pa_nil))) pa_nil)))))) pss_nil)
    (pss_one (ps_ret (pe_tup (pa_cons pe_str (pa_cons (pv 11) (pa_cons (pv 10) (pa_cons (pv 9) (pa_cons (pe_call G_Lpart (hr.mono (by first | decide | omega)) (by rfl) T.m_Lpart T.F_Lpart.kp (b_Lpart T) .nil pass0 (pa_cons (pv 0) (pa_cons (pv 1) (pa_cons (pv 2) (pa_cons (pe_op op_cat (pv 3) (pe_lst (pa_cons (pv 11) pa_nil))) (pa_cons (pe_ix ix_list (pv 8) pe_int (fun _ _ => rfl)) (pa_cons (pe_op op_sub (pv 5) pe_int) pa_nil))))))) pa_nil)))))))))))) pss_nil)
    (pss_cons (ps_set (i := 12) sc_Lpart.nd rfl (Or.inl rfl) (pe_call G_Lsimple (hr.mono (by first | decide | omega)) (by rfl) T.m_Lsimple T.F_Lsimple.kp (b_Lsimple T) .nil pass0 (pa_cons (pv 0) (pa_cons (pv 2) (pa_cons pe_int pa_nil)))))
    (pss_one (ps_ret (pe_tup (pa_cons (pv 6) (pa_cons (pv 10) (pa_cons (pv 12) (pa_cons (pe_call G_Lpart (hr.mono (by first | decide | omega)) (by rfl) T.m_Lpart T.F_Lpart.kp (b_Lpart T) .nil pass0 (pa_cons (pv 0) (pa_cons (pv 1) (pa_cons (pe_op op_cat (pv 2) (pe_lst (pa_cons (pv 10) pa_nil))) (pa_cons (pv 3) (pa_cons (pe_op op_sub (pv 4) pe_int) (pa_cons (pe_op op_sub (pv 5) pe_int) pa_nil))))))) pa_nil)))))))))))))), ?_⟩
    by_cases h3 : r < 3
    · refine sq_yes (a_or (b1 := true) (b2 := true) (a_I0 (val_var rfl) val_c (by show V.bl (decide ((r : Int) < 3)) = _; rw [decide_eq_true (by omega)])) (fun z => by cases z)) ?_
      exact c_ret (c_call (va_cons (val_var rfl) (va_cons (val_var rfl) (va_cons (val_var rfl) (va_cons (val_var rfl) va_nil)))) ⟨t, kn, el, hdd, wl, pl, errs, hd, room, st, ws, ps, ar, xs, ha, js, rfl, hK, hA.ar, hJ.ar, hne, fun v' H' p b hT' hdp hwf hcn => q v' H' p ws ps (BW.of b) (hK.bt b hT') hdp hwf (by omega)⟩)
    · refine sq_yes (a_or (b1 := false) (b2 := true) (a_I0 (val_var rfl) val_c (by show V.bl (decide ((r : Int) < 3)) = _; rw [decide_eq_false (by omega)])) (fun _ => a_eq (val_var rfl) val_c rfl (by decide +kernel))) ?_
      exact c_ret (c_call (va_cons (val_var rfl) (va_cons (val_var rfl) (va_cons (val_var rfl) (va_cons (val_var rfl) va_nil)))) ⟨t, kn, el, hdd, wl, pl, errs, hd, room, st, ws, ps, ar, xs, ha, js, rfl, hK, hA.ar, hJ.ar, hne, fun v' H' p b hT' hdp hwf hcn => q v' H' p ws ps (BW.of b) (hK.bt b hT') hdp hwf (by omega)⟩)
  | succ d ih =>
    have G_Lpart := ih
    refine T.F_Lpart.ok sc_Lpart (fun vs H Q E h => ?_) (fun cdv A outer s H vs Q E hr h => ?_)
    · obtain ⟨t, kn, el, hdd, wl, pl, errs, hd, room, st, ws, ps, ar, xs, ha, js, r, rfl, _⟩ := h
      rfl
    obtain ⟨t, kn, el, hdd, wl, pl, errs, hd, room, st, ws, ps, ar, xs, ha, js, r, rfl, hK, hA, hJ, hne, hr1, hr2, hxl, hjl, q⟩ := h
    refine ⟨_, (pss_cons (ps_if (PW.pt (pw_or (pt_cmpR op_lt (pv 4) pe_int (nomark _)) (pw_or1 (pt_cmpR op_eq (pv 5) pe_int (nomark _))))) (pss_one (ps_ret (pe_call G_Lend (hr.mono (by first | decide | omega)) (by rfl) T.m_Lend T.F_Lend.kp (b_Lend T) .nil pass0 (pa_cons (pv 0) (pa_cons (pv 1) (pa_cons (pv 2) (pa_cons (pv 3) pa_nil))))))) pss_nil)
    (pss_cons (ps_set (i := 6) sc_Lpart.nd rfl (Or.inl rfl) (pe_ix ix_list (pe_lst (pa_cons pe_str (pa_cons pe_str (pa_cons pe_str (pa_cons pe_str (pa_cons pe_str (pa_cons pe_str (pa_cons pe_str (pa_cons pe_str pa_nil))))))))) (pe_call G_Ldigit (hr.mono (by first | decide | omega)) (by rfl) T.m_Ldigit T.F_Ldigit.kp (b_Ldigit T) .nil pass0 (pa_cons (pv 0) (pa_cons pe_int pa_nil))) (fun _ _ => rfl)))
    (pss_cons (ps_if (pt_cmpR op_eq (pv 6) pe_str (nomark _)) (pss_cons (ps_set (i := 7) sc_Lpart.nd rfl (Or.inl rfl) (pe_call G_Lsimple (hr.mono (by first | decide | omega)) (by rfl) T.m_Lsimple T.F_Lsimple.kp (b_Lsimple T) .nil pass0 (pa_cons (pv 0) (pa_cons (pv 2) (pa_cons pe_int pa_nil)))))
    (pss_cons (ps_set (i := 8) sc_Lpart.nd rfl (Or.inl rfl) (pe_call G_Lshares (hr.mono (by first | decide | omega)) (by rfl) T.m_Lshares T.F_Lshares.kp (b_Lshares T) .nil pass0 (pa_cons (pv 0) (pa_cons (pe_op op_sub (pv 4) pe_int) (pa_cons pe_int pa_nil)))))
    (pss_cons (ps_set (i := 9) sc_Lpart.nd rfl (Or.inl rfl) (pe_call G_Lpart (hr.mono (by first | decide | omega)) (by rfl) T.m_Lpart T.F_Lpart.kp (b_Lpart T) .nil pass0 (pa_cons (pv 0) (pa_cons (pv 1) (pa_cons (pv 2) (pa_cons (pv 3) (pa_cons (pe_ix ix_list (pv 8) pe_int (fun _ _ => rfl)) (pa_cons (pe_op op_sub (pv 5) pe_int) pa_nil))))))))
    (pss_one (ps_ret (pe_tup (pa_cons pe_str (pa_cons (pv 7) (pa_cons (pv 9) (pa_cons (pe_call G_Lpart (hr.mono (by first | decide | omega)) (by rfl) T.m_Lpart T.F_Lpart.kp (b_Lpart T) .nil pass0 (pa_cons (pv 0) (pa_cons (pv 1) (pa_cons (pv 2) (pa_cons (pv 3) (pa_cons (pe_ix ix_list (pv 8) pe_int (fun _ _ => rfl)) (pa_cons (pe_op op_sub (pv 5) pe_int) pa_nil))))))) pa_nil)))))))))) pss_nil)
    (pss_cons (ps_if (pt_cmpR (op_eqD hr.units) (pe_dget (hu_of hr) (pv 1) pe_str (fun _ _ => rfl)) (pe_lst pa_nil) (nomark _)) (pss_one (ps_ret (pe_call G_Lend (hr.mono (by first | decide | omega)) (by rfl) T.m_Lend T.F_Lend.kp (b_Lend T) .nil pass0 (pa_cons (pv 0) (pa_cons (pv 1) (pa_cons (pv 2) (pa_cons (pv 3) pa_nil))))))) pss_nil)
    (pss_cons (ps_set (i := 10) sc_Lpart.nd rfl (Or.inl rfl) (pe_bm0 PySem.F.plainAttrs_list PySem.F.slot_list_pop PySem.F.type_list_pop mt_pop (pe_dget (hu_of hr) (pv 1) pe_str (fun _ _ => rfl))))
    (pss_cons (ps_if (pt_cmpR op_eq (pv 6) pe_str (nomark _)) (pss_cons (ps_set (i := 11) sc_Lpart.nd rfl (Or.inl rfl) (pe_bm0 PySem.F.plainAttrs_list PySem.F.slot_list_pop PySem.F.type_list_pop mt_pop (pe_dget (hu_of hr) (pv 1) pe_str (fun _ _ => rfl))))
    (pss_cons (ps_set (i := 8) sc_Lpart.nd rfl (Or.inl rfl) (pe_call G_Lshares (hr.mono (by first | decide | omega)) (by rfl) T.m_Lshares T.F_Lshares.kp (b_Lshares T) .nil pass0 (pa_cons (pv 0) (pa_cons (pe_op op_sub (pv 4) pe_int) (pa_cons pe_int pa_nil)))))
    (pss_cons (ps_set (i := 9) sc_Lpart.nd rfl (Or.inl rfl) (pe_call G_Lpart (hr.mono (by first | decide | omega)) (by rfl) T.m_Lpart T.F_Lpart.kp (b_Lpart T) .nil pass0 (pa_cons (pv 0) (pa_cons (pv 1) (pa_cons (pe_op op_cat (pv 2) (pe_lst (pa_cons (pv 10) pa_nil))) (pa_cons (pv 3) (pa_cons (pe_ix ix_list (pv 8) pe_int (fun _ _ => rfl)) (pa_cons (pe_op op_sub (pv 5) pe_int) pa_nil))))))))
    (pss_cons (ps_if (pt_cmpR op_eq (pe_call G_Ldigit (hr.mono (by first | decide | omega)) (by rfl) T.m_Ldigit T.F_Ldigit.kp (b_Ldigit T) .nil pass0 (pa_cons (pv 0) (pa_cons pe_int pa_nil))) pe_int (nomark _)) (pss_one (ps_set (i := 9) sc_Lpart.nd rfl (Or.inl rfl) (pe_tup (pa_cons pe_str (pa_cons (pe_call G_Lsome_hand (hr.mono (by first | decide | omega)) (by rfl) T.m_Lsome_hand T.F_Lsome_hand.kp (b_Lsome_hand T) .nil pass0 (pa_cons (pv 0) (pa_cons (pv 1) (pa_cons (pv 3) pa_nil)))) (pa_cons (pe_tup (pa_cons pe_str (pa_cons (pv 10) pa_nil))) pa_nil)))))) pss_nil)
    (pss_one (ps_ret (pe_tup (pa_cons pe_str (pa_cons (pv 11) (pa_cons (pv 10) (pa_cons (pv 9) (pa_cons (pe_call G_Lpart (hr.mono (by first | decide | omega)) (by rfl) T.m_Lpart T.F_Lpart.kp (b_Lpart T) .nil pass0 (pa_cons (pv 0) (pa_cons (pv 1) (pa_cons (pv 2) (pa_cons (pe_op op_cat (pv 3) (pe_lst (pa_cons (pv 11) pa_nil))) (pa_cons (pe_ix ix_list (pv 8) pe_int (fun _ _ => rfl)) (pa_cons (pe_op op_sub (pv 5) pe_int) pa_nil))))))) pa_nil)))))))))))) pss_nil)
    (pss_cons (ps_set (i := 12) sc_Lpart.nd rfl (Or.inl rfl) (pe_call G_Lsimple (hr.mono (by first | decide | omega)) (by rfl) T.m_Lsimple T.F_Lsimple.kp (b_Lsimple T) .nil pass0 (pa_cons (pv 0) (pa_cons (pv 2) (pa_cons pe_int pa_nil)))))
    (pss_one (ps_ret (pe_tup (pa_cons (pv 6) (pa_cons (pv 10) (pa_cons (pv 12) (pa_cons (pe_call G_Lpart (hr.mono (by first | decide | omega)) (by rfl) T.m_Lpart T.F_Lpart.kp (b_Lpart T) .nil pass0 (pa_cons (pv 0) (pa_cons (pv 1) (pa_cons (pe_op op_cat (pv 2) (pe_lst (pa_cons (pv 10) pa_nil))) (pa_cons (pv 3) (pa_cons (pe_op op_sub (pv 4) pe_int) (pa_cons (pe_op op_sub (pv 5) pe_int) pa_nil))))))) pa_nil)))))))))))))), ?_⟩
    have dz : decide (V.int ((d + 1 : Nat) : Int) = V.int 0) = false := decide_eq_false (by intro z; injection z with z; omega)
    have hd1 : ((d + 1 : Nat) : Int) - 1 = (d : Int) := by omega
    by_cases h3 : r < 3
    · refine sq_yes (a_or (b1 := true) (b2 := true) (a_I0 (val_var rfl) val_c (by show V.bl (decide ((r : Int) < 3)) = _; rw [decide_eq_true (by omega)])) (fun z => by cases z)) ?_
      exact c_ret (c_call (va_cons (val_var rfl) (va_cons (val_var rfl) (va_cons (val_var rfl) (va_cons (val_var rfl) va_nil)))) ⟨t, kn, el, hdd, wl, pl, errs, hd, room, st, ws, ps, ar, xs, ha, js, rfl, hK, hA.ar, hJ.ar, hne, fun v' H' p b hT' hdp hwf hcn => q v' H' p ws ps (BW.of b) (hK.bt b hT') hdp hwf (by omega)⟩)
    refine sq_no (a_or (b1 := false) (b2 := false) (a_I0 (val_var rfl) val_c (by show V.bl (decide ((r : Int) < 3)) = _; rw [decide_eq_false (by omega)])) (fun _ => a_eq (val_var rfl) val_c rfl dz)) ?_
    refine sq_setC (c_opL (c_lstV (va_cons val_c (va_cons val_c (va_cons val_c (va_cons val_c (va_cons val_c (va_cons val_c (va_cons val_c (va_cons val_c va_nil)))))))) (by simp) fun wls hwls => ?_))
    have e1 := same_new (o := .lst [V.str "tell", V.str "let", V.str "if", V.str "if", V.str "post", V.str "post", V.str "post", V.str "post"]) hwls
    have hK1 := hK.same e1
    have nwt : wls ≠ t := fun z => by obtain ⟨y, h⟩ := hK.tp; rw [← z, hwls] at h; cases h
    refine c_call (va_cons (val_var rfl) (va_cons val_c va_nil)) ⟨t, 8, rfl, hK1.tp, by decide, by decide, fun k H2 hk b2 hT2 => ?_⟩
    have hwl2 := b2 _ _ nwt upd_same
    have bt2 : BT t H H2 := (But.of e1).trans b2
    have hK2 := hK1.bt b2 hT2
    have hA2 := hA.bw hK.tp (BW.of bt2)
    have hJ2 := hJ.bw hK.tp (BW.of bt2)
    have hwd : (∃ tl : Bool, atI [V.str "tell", V.str "let", V.str "if", V.str "if", V.str "post", V.str "post", V.str "post", V.str "post"] (k : Int) = some (.str (kwS tl))) ∨ atI [V.str "tell", V.str "let", V.str "if", V.str "if", V.str "post", V.str "post", V.str "post", V.str "post"] (k : Int) = some (.str "if") ∨ atI [V.str "tell", V.str "let", V.str "if", V.str "if", V.str "post", V.str "post", V.str "post", V.str "post"] (k : Int) = some (.str "post") := by
      match k, hk with
      | 0, _ => exact .inl ⟨true, rfl⟩
      | 1, _ => exact .inl ⟨false, rfl⟩
      | 2, _ => exact .inr (.inl rfl)
      | 3, _ => exact .inr (.inl rfl)
      | 4, _ => exact .inr (.inr rfl)
      | 5, _ => exact .inr (.inr rfl)
      | 6, _ => exact .inr (.inr rfl)
      | 7, _ => exact .inr (.inr rfl)
      | n + 8, h => exact absurd h (by omega)
    clear hK1
    rcases hwd with ⟨tl, hwd⟩ | hwd | hwd
    · -- tell, let
      refine ⟨wls, _, _, _, rfl, rfl, SqL.of hwl2, hwd, ?_⟩
      refine sq_no (a_eq (val_var rfl) val_c rfl (kwS_ne (by decide +kernel) (by decide +kernel))) ?_
      refine sq_ifC (c_test (c_eqNil (v_dget (val_var rfl) val_c hK2.kna kn_wl) hK2.wla fun pe hpe => ⟨_, rfl, ?_⟩))
      have e3 := same_new (o := .lst []) hpe
      have hK3 := hK2.same e3
      have hA3 := hA2.same e3
      have hJ3 := hJ2.same e3
      have bt3 := bt2.trans (But.of (S := fun b => b = t) e3)
      by_cases hw0 : ws = []
      · rw [decide_eq_true hw0]
        refine iteT ?_
        exact c_ret (c_call (va_cons (val_var rfl) (va_cons (val_var rfl) (va_cons (val_var rfl) (va_cons (val_var rfl) va_nil)))) ⟨t, kn, el, hdd, wl, pl, errs, hd, room, st, ws, ps, ar, xs, ha, js, rfl, hK3, hA3.ar, hJ3.ar, hne, fun v' H' p b hT' hdp hwf hcn => q v' H' p ws ps (BW.of (bt3.trans b)) (hK3.bt b hT') hdp hwf (by omega)⟩)
      rw [decide_eq_false hw0]
      refine iteF ?_
      show tSeq _ _ _ _ _
      obtain ⟨x, hx, hxm⟩ := last_of hw0
      refine sq_setC (c_bm0 (v_dget (val_var rfl) val_c hK3.kna kn_wl) ⟨_, hK3.wla.sq⟩ ⟨wl, _, _, rfl, rfl, hK3.wla.at_, hx, ?_⟩)
      have hK4 := hK3.popW
      have b34 : BW t wl pl (upd H2 pe (.lst [])) (upd (upd H2 pe (.lst [])) wl (.lst (ws.map V.str).dropLast)) := But.mut (.inr (.inl rfl))
      have hA4 := hA3.bw hK3.tp b34
      have hJ4 := hJ3.bw hK3.tp b34
      have hxk := hK.wla.ok x hxm
      have b4 := (BW.of bt3).trans b34
      clear e3 hpe hx
      generalize upd (upd H2 pe (.lst [])) wl (.lst (ws.map V.str).dropLast) = H4 at *
      refine sq_no (a_eq (val_var rfl) val_c rfl kwS_post) ?_
      refine sq_setC (c_call (va_cons (val_var rfl) (va_cons (val_var rfl) (va_cons val_c va_nil))) ⟨t, ar, xs, rfl, hK4.tp, hA4.ar, fun v5 H5 s5 b5 hT5 hd5 hw5 hl5 => ?_⟩)
      have hK5 := hK4.bt b5 hT5
      have hA5 := hA4.bw hK4.tp (BW.of b5)
      have hJ5 := hJ4.bw hK4.tp (BW.of b5)
      have er : (r : Int) - 1 = ((r - 1 : Nat) : Int) := by omega
      refine c_ret (c_tup' (c_cons (c_val (val_var rfl) (c_cons (c_val (val_var rfl) (c_cons (c_val (val_var rfl) (c_cons ?_))))))))
      refine c_callL (c_cons (c_val (val_var rfl) (c_cons (c_val (val_var rfl) (c_cons ?_)))))
      refine c_snoc (val_var rfl) (val_var rfl) hA5 hxk (by omega) hT5 (by rw [hK5.wla.at_]; simp) (by rw [hK5.pla.at_]; simp) fun a6 H6 e6 hA6 => ?_
      refine c_cons (c_val (val_var rfl) (c_cons (c_val (v_I0 (val_var rfl) val_c) (c_cons (c_val (v_I0 (val_var rfl) val_c) (c_nil ?_))))))
      have hK6 := hK5.same e6
      refine ⟨t, kn, el, hdd, wl, pl, errs, hd, room, st, _, ps, a6, xs ++ [x], ha, js, r - 1, by simp only [List.append_nil, er, hd1], hK6, hA6, hJ5.same e6, hne, by omega, by omega, by simp; omega, by omega, fun v7 H7 p7 ws7 ps7 b7 hK7 hd7 hw7 hc7 => c_nil ⟨sz_of (by simp), fun p hp => ?_⟩⟩
      have e8 := same_new (o := .tup [.str (kwS tl), .str x, v5, v7]) hp
      have b68 := (But.of (S := fun b => b = t ∨ b = wl ∨ b = pl) e6).trans (b7.trans (But.of e8))
      refine q (.ref p) _ (.st tl x s5 p7) ws7 ps7 (b4.trans ((BW.of b5).trans b68)) (hK7.same e8) (.tup (SqT.of upd_same) (.cons (.str _) (.cons (.str _) (.cons (but_dp b68 hK5.mutS (noL_T _) hd5) (.cons (dp_mono e8 hd7) .nil))))) ⟨hw5, hl5, wf_tail hw7⟩ ?_
      simp only [cnt]
      omega
    · -- if
      refine ⟨wls, _, _, _, rfl, rfl, SqL.of hwl2, hwd, ?_⟩
      refine sq_yes (a_eq (val_var rfl) val_c rfl (by decide +kernel)) ?_
      refine sq_setC (c_call (va_cons (val_var rfl) (va_cons (val_var rfl) (va_cons val_c va_nil))) ⟨t, ar, xs, rfl, hT2, hA2.ar, fun v3 H3 s3 b3 hT3 hd3 hw3 hl3 => ?_⟩)
      have hK3 := hK2.bt b3 hT3
      have hA3 := hA2.bw hT2 (BW.of b3)
      have hJ3 := hJ2.bw hT2 (BW.of b3)
      have er : (r : Int) - 1 = ((r - 1 : Nat) : Int) := by omega
      refine sq_setC (c_call (vs := [.ref t, .int ((r - 1 : Nat) : Int), .int 2]) (va_cons (val_var rfl) (va_cons (v_is (v_I0 (val_var rfl) val_c) (show V.int ((r : Int) - 1) = _ by rw [er])) (va_cons val_c va_nil))) ⟨t, r - 1, rfl, hT3, by omega, by omega, fun sl H4 sa sb b4 hT4 hsl hsln ha1 hb1 hab => ?_⟩)
      have hK4 := hK3.bt b4 hT4
      have hA4 := hA3.bw hT3 (BW.of b4)
      have hJ4 := hJ3.bw hT3 (BW.of b4)
      have nst : sl ≠ t := fun z => by obtain ⟨y, h⟩ := hT3; rw [← z, hsln] at h; cases h
      have nsw : sl ≠ wl := fun z => by have h := hK3.wla.at_; rw [← z, hsln] at h; cases h
      have nsp : sl ≠ pl := fun z => by have h := hK3.pla.at_; rw [← z, hsln] at h; cases h
      refine sq_setC (c_call (vs := [.ref t, .ref kn, .ref ar, .ref ha, .int sa, .int d]) (va_cons (val_var rfl) (va_cons (val_var rfl) (va_cons (val_var rfl) (va_cons (val_var rfl) (va_cons (v_ixL (val_var rfl) val_c (SqL.of hsl) rfl) (va_cons (v_is (v_I0 (val_var rfl) val_c) (show V.int (((d + 1 : Nat) : Int) - 1) = _ by rw [hd1])) va_nil)))))) ⟨t, kn, el, hdd, wl, pl, errs, hd, room, st, ws, ps, ar, xs, ha, js, sa, rfl, hK4, hA4, hJ4, hne, ha1, by omega, by omega, by omega, fun v5 H5 p5 ws5 ps5 b5 hK5 hd5 hw5 hc5 => ?_⟩)
      have hsl5 := b5 _ _ (fun z => z.elim nst fun z => z.elim nsw nsp) hsl
      have hA5 := hA4.bw hT4 b5
      have hJ5 := hJ4.bw hT4 b5
      refine c_ret (c_tup' (c_cons (c_val val_c (c_cons (c_val (val_var rfl) (c_cons (c_val (val_var rfl) (c_cons ?_))))))))
      refine c_call (vs := [.ref t, .ref kn, .ref ar, .ref ha, .int sb, .int d]) (va_cons (val_var rfl) (va_cons (val_var rfl) (va_cons (val_var rfl) (va_cons (val_var rfl) (va_cons (v_ixL (val_var rfl) val_c (SqL.of hsl5) rfl) (va_cons (v_is (v_I0 (val_var rfl) val_c) (show V.int (((d + 1 : Nat) : Int) - 1) = _ by rw [hd1])) va_nil)))))) ⟨t, kn, el, hdd, wl, pl, errs, hd, room, st, ws5, ps5, ar, xs, ha, js, sb, rfl, hK5, hA5, hJ5, hne, hb1, by omega, by omega, by omega, fun v6 H6 p6 ws6 ps6 b6 hK6 hd6 hw6 hc6 => c_nil ⟨sz_of (by simp), fun p hp => ?_⟩⟩
      have e7 := same_new (o := .tup [.str "if", v3, v5, v6]) hp
      have b67 := b6.trans (But.of (S := fun b => b = t ∨ b = wl ∨ b = pl) e7)
      have b47 := b5.trans b67
      have d3 := but_dp b47 hK4.mutS (noL_T _) (but_dp b4 hT3.mutS (noL_T _) hd3)
      refine q (.ref p) _ (.ite s3 p5 p6) ws6 ps6 ((BW.of (bt2.trans (b3.trans b4))).trans b47) (hK6.same e7) (.tup (SqT.of upd_same) (.cons (.str _) (.cons d3 (.cons (but_dp b67 hK5.mutS (noL_P _) hd5) (.cons (dp_mono e7 hd6) .nil))))) ⟨hw3, hl3, hw5, hw6⟩ ?_
      simp only [cnt]
      omega
    · -- post
      refine ⟨wls, _, _, _, rfl, rfl, SqL.of hwl2, hwd, ?_⟩
      refine sq_no (a_eq (val_var rfl) val_c rfl (by decide +kernel)) ?_
      refine sq_ifC (c_test (c_eqNil (v_dget (val_var rfl) val_c hK2.kna kn_wl) hK2.wla fun pe hpe => ⟨_, rfl, ?_⟩))
      have e3 := same_new (o := .lst []) hpe
      have hK3 := hK2.same e3
      have hA3 := hA2.same e3
      have hJ3 := hJ2.same e3
      have bt3 := bt2.trans (But.of (S := fun b => b = t) e3)
      by_cases hw0 : ws = []
      · rw [decide_eq_true hw0]
        refine iteT ?_
        exact c_ret (c_call (va_cons (val_var rfl) (va_cons (val_var rfl) (va_cons (val_var rfl) (va_cons (val_var rfl) va_nil)))) ⟨t, kn, el, hdd, wl, pl, errs, hd, room, st, ws, ps, ar, xs, ha, js, rfl, hK3, hA3.ar, hJ3.ar, hne, fun v' H' p b hT' hdp hwf hcn => q v' H' p ws ps (BW.of (bt3.trans b)) (hK3.bt b hT') hdp hwf (by omega)⟩)
      rw [decide_eq_false hw0]
      refine iteF ?_
      show tSeq _ _ _ _ _
      obtain ⟨x, hx, hxm⟩ := last_of hw0
      refine sq_setC (c_bm0 (v_dget (val_var rfl) val_c hK3.kna kn_wl) ⟨_, hK3.wla.sq⟩ ⟨wl, _, _, rfl, rfl, hK3.wla.at_, hx, ?_⟩)
      have hK4 := hK3.popW
      have b34 : BW t wl pl (upd H2 pe (.lst [])) (upd (upd H2 pe (.lst [])) wl (.lst (ws.map V.str).dropLast)) := But.mut (.inr (.inl rfl))
      have hA4 := hA3.bw hK3.tp b34
      have hJ4 := hJ3.bw hK3.tp b34
      have hxk := hK.wla.ok x hxm
      have b4 := (BW.of bt3).trans b34
      clear e3 hpe hx
      generalize upd (upd H2 pe (.lst [])) wl (.lst (ws.map V.str).dropLast) = H4 at *
      refine sq_yes (a_eq (val_var rfl) val_c rfl (by decide +kernel)) ?_
      have hwp := hK.lt
      have hwn : 1 ≤ ws.length := List.length_pos_iff.mpr hw0
      have hp0 : ps ≠ [] := fun z => by rw [z] at hwp; have h0 : ws.length ≤ 0 := hwp; omega
      obtain ⟨j, hj, hjm⟩ := last_of hp0
      refine sq_setC (c_bm0 (v_dget (val_var rfl) val_c hK4.kna kn_pl) ⟨_, hK4.pla.sq⟩ ⟨pl, _, _, rfl, rfl, hK4.pla.at_, hj, ?_⟩)
      have hK5 := hK4.popP (by rw [List.length_dropLast]; omega)
      have b45 : BW t wl pl H4 (upd H4 pl (.lst (ps.map V.str).dropLast)) := But.mut (.inr (.inr rfl))
      have hA5 := hA4.bw hK4.tp b45
      have hJ5 := hJ4.bw hK4.tp b45
      have hjk := hK.pla.ok j hjm
      have b5 := b4.trans b45
      clear hj
      generalize upd H4 pl (.lst (ps.map V.str).dropLast) = H5 at *
      have er : (r : Int) - 1 = ((r - 1 : Nat) : Int) := by omega
      refine sq_setC (c_call (vs := [.ref t, .int ((r - 1 : Nat) : Int), .int 2]) (va_cons (val_var rfl) (va_cons (v_is (v_I0 (val_var rfl) val_c) (show V.int ((r : Int) - 1) = _ by rw [er])) (va_cons val_c va_nil))) ⟨t, r - 1, rfl, hK5.tp, by omega, by omega, fun sl H6 sa sb b6 hT6 hsl hsln ha1 hb1 hab => ?_⟩)
      have hK6 := hK5.bt b6 hT6
      have hA6 := hA5.bw hK5.tp (BW.of b6)
      have hJ6 := hJ5.bw hK5.tp (BW.of b6)
      have nst : sl ≠ t := fun z => by obtain ⟨y, h⟩ := hK5.tp; rw [← z, hsln] at h; cases h
      have nsw : sl ≠ wl := fun z => by have h := hK5.wla.at_; rw [← z, hsln] at h; cases h
      have nsp : sl ≠ pl := fun z => by have h := hK5.pla.at_; rw [← z, hsln] at h; cases h
      have ns3 : ¬ (sl = t ∨ sl = wl ∨ sl = pl) := fun z => z.elim nst fun z => z.elim nsw nsp
      refine sq_setC (c_callL (c_cons (c_val (val_var rfl) (c_cons (c_val (val_var rfl) (c_cons ?_))))))
      refine c_snoc (val_var rfl) (val_var rfl) hA6 hxk (by omega) hT6 (by rw [hK6.wla.at_]; simp) (by rw [hK6.pla.at_]; simp) fun a7 H7 e7 hA7 => ?_
      have hK7 := hK6.same e7
      have hJ7 := hJ6.same e7
      have hsl7 := e7 _ _ hsl
      refine c_cons (c_val (val_var rfl) (c_cons (c_val (v_ixL (val_var rfl) val_c (SqL.of hsl7) rfl) (c_cons (c_val (v_I0 (val_var rfl) val_c) (c_nil ?_))))))
      refine ⟨t, kn, el, hdd, wl, pl, errs, hd, room, st, _, _, a7, xs ++ [x], ha, js, sa, by simp only [List.append_nil, hd1], hK7, hA7, hJ7, hne, ha1, by omega, by simp; omega, by omega, fun v8 H8 p8 ws8 ps8 b8 hK8 hd8 hw8 hc8 => ?_⟩
      have hsl8 := b8 _ _ ns3 hsl7
      have hJ8 := hJ7.bw hK7.tp b8
      have hA8 := (hA6.same e7).bw hK7.tp b8
      have b08 := b5.trans ((BW.of b6).trans ((But.of e7).trans b8))
      clear hK7 hJ7 hsl7 hA7 e7 b8
      -- the end of it
      have fin : ∀ (v9 : V) (H9 : Hp) (p9 : Pts), BT t H8 H9 → TP H9 t → Dp K H9 v9 (encP p9) → WFp ("home" : Str) hd 2 (xs ++ [x]) js p9 → cnt p9 + 1 ≤ 2 * sa → ∀ a12,
          tRet (tTup (tCons (tC (.str "post")) (tCons (tVar 11) (tCons (tVar 10) (tCons (tVar 9) (tCons (tCall (spPart K d) [] E0 (tCons (tVar 0) (tCons (tVar 1) (tCons (tVar 2) (tCons (tOp rCat (tVar 3) (tLst (tCons (tVar 11) tNil))) (tCons (tOp (rIxL K) (tVar 8) (tC (.int 1))) (tCons (tOp (rI0 fun i j => V.int (i - j)) (tVar 5) (tC (.int 1))) tNil))))))) tNil)))))) { nx := fun x H' => Q V.non H', rt := Q }
            [some (.ref t), some (.ref kn), some (.ref ar), some (.ref ha), some (.int r), some (.int ((d + 1 : Nat) : Int)), some (.str "post"), none, some (.ref sl), some v9, some (.str x), some (.str j), a12] H9 := fun v9 H9 p9 b9 hT9 hd9 hw9 hc9 a12 => by
        have hK9 := hK8.bt b9 hT9
        have hJ9 := hJ8.bw hK8.tp (BW.of b9)
        have hA9 := hA8.bw hK8.tp (BW.of b9)
        have hsl9 := b9 _ _ nst hsl8
        refine c_ret (c_tup' (c_cons (c_val val_c (c_cons (c_val (val_var rfl) (c_cons (c_val (val_var rfl) (c_cons (c_val (val_var rfl) (c_cons ?_))))))))))
        refine c_callL (c_cons (c_val (val_var rfl) (c_cons (c_val (val_var rfl) (c_cons (c_val (val_var rfl) (c_cons ?_)))))))
        refine c_snoc (val_var rfl) (val_var rfl) hJ9 hjk (by omega) hT9 (by rw [hK9.wla.at_]; simp) (by rw [hK9.pla.at_]; simp) fun a10 H10 e10 hJ10 => ?_
        have hsl10 := e10 _ _ hsl9
        have hK10 := hK9.same e10
        refine c_cons (c_val (v_ixL (val_var rfl) val_c (SqL.of hsl10) rfl) (c_cons (c_val (v_I0 (val_var rfl) val_c) (c_nil ?_))))
        refine ⟨t, kn, el, hdd, wl, pl, errs, hd, room, st, _, _, ar, xs, a10, js ++ [j], sb, by simp only [List.append_nil, hd1], hK10, hA9.same e10, hJ10, by simp, hb1, by omega, by omega, by simp; omega, fun v11 H11 p11 ws11 ps11 b11 hK11 hd11 hw11 hc11 => c_nil ⟨sz_of (by simp), fun p hp => ?_⟩⟩
        have e12 := same_new (o := .tup [.str "post", .str j, .str x, v9, v11]) hp
        have b912 := (But.of (S := fun b => b = t ∨ b = wl ∨ b = pl) e10).trans (b11.trans (But.of e12))
        refine q (.ref p) _ (.post j x p9 p11) ws11 ps11 (b08.trans ((BW.of b9).trans b912)) (hK11.same e12) (.tup (SqT.of upd_same) (.cons (.str _) (.cons (.str _) (.cons (.str _) (.cons (but_dp b912 hK9.mutS (noL_P _) hd9) (.cons (dp_mono e12 hd11) .nil)))))) ⟨wok_home (hK.pok j hjm), wf_tail hw9, wf_tailJ hw11⟩ ?_
        simp only [cnt]
        omega
      refine sq_ifC (c_test (c_opL (c_call (va_cons (val_var rfl) (va_cons val_c va_nil)) ⟨t, 8, rfl, hK8.tp, by decide, by decide, fun k9 H9 hk9 b9 hT9 => c_val val_c ⟨rfl, _, rfl, ?_⟩⟩)))
      have hK9 := hK8.bt b9 hT9
      by_cases h0 : k9 = 0
      · rw [decide_eq_true (by rw [h0]; rfl)]
        refine iteT ?_
        refine c_set (c_tup' (c_cons (c_val val_c (c_cons (c_call (va_cons (val_var rfl) (va_cons (val_var rfl) (va_cons (val_var rfl) va_nil))) ⟨t, kn, el, hdd, wl, pl, errs, hd, room, st, _, _, ha, js, rfl, hK9, (hJ8.bw hK8.tp (BW.of b9)).ar, hne, fun j2 H10 b10 hT10 hj2 => ?_⟩)))))
        refine c_cons (c_tupV (va_cons val_c (va_cons (val_var rfl) va_nil)) (by simp) fun pn hpn => c_nil ⟨sz_of (by simp), fun pg hpg => ?_⟩)
        have e11 := same_new (o := .tup [.str "name", .str x]) hpn
        have e12 := same_new (o := .tup [.str "give", .str j2, .ref pn]) hpg
        exact fin (.ref pg) _ (.give j2 (.nm x)) (b9.trans (b10.trans (But.of (e11.trans e12)))) (hT10.same (e11.trans e12)) (.tup (SqT.of upd_same) (.cons (.str _) (.cons (.str _) (.cons (dp_mono e12 (mk_nm upd_same)) .nil)))) ⟨by show x ∈ xs ++ [x]; simp, by simp [tdep], hj2⟩ (by simp only [cnt]; omega) _
      · rw [decide_eq_false (by intro z; injection z with z; omega)]
        refine iteF ?_
        exact fin v8 H9 p8 b9 hT9 (but_dp b9 hK8.tp.mutS (noL_P _) hd8) hw8 hc8 _
end
end Wn
end
section
set_option Elab.async false
set_option linter.all false
set_option maxRecDepth 100000
set_option maxHeartbeats 4000000
namespace Wn
open PySem PySem.Spec PyProof.Rows L2
theorem fn_any {P : Program} {w : World} {K : PySem.W.Frag} {mg : Str → Option Value} {base : Heap} {CX : CXT} {k : Nat} {f : Addr} {fd : FuncData} {ps : List Str} {sp : Nat → Sp} {n : Nat} (h : ∀ d, d ≤ n → FnOk P w K mg base CX k f fd ps (sp d)) :
    FnOk P w K mg base CX k f fd ps (fun vs H Q E => ∃ d, d ≤ n ∧ sp d vs H Q E) :=
  ⟨fun vs H Q E ⟨d, hd, q⟩ => (h d hd).len vs H Q E q, fun A outer s H args us vs Q E hr he hb hv ⟨d, hd, q⟩ => (h d hd).run A outer s H args us vs Q E hr he hb hv q⟩
def spBody (K : PySem.W.Frag) : Sp := fun vs H Q _ => ∃ (t kn el hdd wl pl : Addr) (errs : List Str) (hd : Str → Option Nat) (room : Nat) (st : Bool) (ws ps : List Str) (na : Addr) (xs : List Str), vs = [.ref t, .ref kn, .ref na] ∧ KN H t kn el hdd wl pl errs hd room st ws ps ∧ LA H t wl pl na xs ∧ 1 ≤ room ∧ room ≤ 13 ∧ xs.length ≤ 50 ∧
  ∀ v' H' (p : Pts) ws' ps', BW t wl pl H H' → KN H' t kn el hdd wl pl errs hd room st ws' ps' → Dp K H' v' (encP p) → WFp ("home" : Str) hd 2 xs ["home"] p → cnt p ≤ 31 → Q v' H'
section
variable {P : Program} {w : World} {K : PySem.W.Frag} {mg : Str → Option Value} {base : Heap} {ad : Nat → Addr} {fd : Nat → FuncData} {cL cT cN cB : Addr}
theorem ok_Lpart_any (T : Tx K mg ad fd cL cT cN cB) : FnOk P w K mg base CX0 15 (ad 45) (fd 45) ["tape", "known", "around", "hands", "room", "deep"] (fun vs H Q E => ∃ d, d ≤ 8 ∧ spPart K d vs H Q E) := fn_any fun d hd => (ok_Lpart T d).mono (by omega)
theorem ok_Lturned_body (T : Tx K mg ad fd cL cT cN cB) : FnOk P w K mg base CX0 16 (ad 46) (fd 46) ["tape", "known", "names"] (spBody K) := by
  have G_Ldigit := ok_Ldigit (P := P) (w := w) (base := base) T
  have G_Lpart := ok_Lpart_any (P := P) (w := w) (base := base) T
  refine T.F_Lturned_body.ok sc_Lturned_body (fun vs H Q E h => ?_) (fun cdv A outer s H vs Q E hr h => ?_)
  · obtain ⟨t, kn, el, hdd, wl, pl, errs, hd, room, st, ws, ps, na, xs, rfl, _⟩ := h
    rfl
  obtain ⟨t, kn, el, hdd, wl, pl, errs, hd, room, st, ws, ps, na, xs, rfl, hK, hA, hr1, hr2, hxl, q⟩ := h
  refine ⟨_, (pss_cons (ps_if (PW.pt (pw_and (pt_cmpR (op_neD hr.units) (pv 2) (pe_lst pa_nil) (nomark _)) (pw_and1 (pt_cmpR op_gt (pe_call G_Ldigit (hr.mono (by first | decide | omega)) (by rfl) T.m_Ldigit T.F_Ldigit.kp (b_Ldigit T) .nil pass0 (pa_cons (pv 0) (pa_cons pe_int pa_nil))) pe_int (nomark _))))) (pss_cons (ps_set (i := 3) sc_Lturned_body.nd rfl (Or.inl rfl) (pe_call G_Lpart (hr.mono (by first | decide | omega)) (by rfl) T.m_Lpart T.F_Lpart.kp (b_Lpart T) .nil pass0 (pa_cons (pv 0) (pa_cons (pv 1) (pa_cons (pv 2) (pa_cons (pe_lst (pa_cons pe_str pa_nil)) (pa_cons (pe_dget (hu_of hr) (pv 1) pe_str (fun _ _ => rfl)) (pa_cons pe_int pa_nil))))))))
    (pss_cons (ps_set (i := 4) sc_Lturned_body.nd rfl (Or.inl rfl) (pe_call G_Lpart (hr.mono (by first | decide | omega)) (by rfl) T.m_Lpart T.F_Lpart.kp (b_Lpart T) .nil pass0 (pa_cons (pv 0) (pa_cons (pv 1) (pa_cons (pv 2) (pa_cons (pe_lst (pa_cons pe_str pa_nil)) (pa_cons pe_int (pa_cons pe_int pa_nil))))))))
    (pss_one (ps_ret (pe_tup (pa_cons pe_str (pa_cons (pe_tup (pa_cons pe_str (pa_cons (pe_ix ix_list (pv 2) pe_int (fun _ _ => rfl)) pa_nil))) (pa_cons (pv 3) (pa_cons (pv 4) pa_nil))))))))) pss_nil)
    (pss_one (ps_ret (pe_call G_Lpart (hr.mono (by first | decide | omega)) (by rfl) T.m_Lpart T.F_Lpart.kp (b_Lpart T) .nil pass0 (pa_cons (pv 0) (pa_cons (pv 1) (pa_cons (pv 2) (pa_cons (pe_lst (pa_cons pe_str pa_nil)) (pa_cons (pe_dget (hu_of hr) (pv 1) pe_str (fun _ _ => rfl)) (pa_cons pe_int pa_nil)))))))))), ?_⟩
  have nohome : ∀ (H1 : Hp) ws1 ps1, BW t wl pl H H1 → KN H1 t kn el hdd wl pl errs hd room st ws1 ps1 → LA H1 t wl pl na xs → ∀ (R : VK) (d r : Nat), d ≤ 8 → 1 ≤ r → r ≤ 13 →
      (∀ v' H' (p : Pts) ws' ps', BW t wl pl H1 H' → KN H' t kn el hdd wl pl errs hd room st ws' ps' → LA H' t wl pl na xs → Dp K H' v' (encP p) → WFp ("home" : Str) hd 2 xs ["home"] p → cnt p + 1 ≤ 2 * r → R v' H') →
      ∀ l, H1 l = none → (fun vs H Q E => ∃ d, d ≤ 8 ∧ spPart K d vs H Q E) [.ref t, .ref kn, .ref na, .ref l, .int r, .int d] (upd H1 l (.lst [.str "home"])) R E0 := fun H1 ws1 ps1 b1 hK1 hA1 R d r hd8 h1 h13 k l hl => by
    have e1 := same_new (o := .lst [V.str "home"]) hl
    have hK2 := hK1.same e1
    refine ⟨d, hd8, t, kn, el, hdd, wl, pl, errs, hd, room, st, ws1, ps1, na, xs, l, ["home"], r, rfl, hK2, hA1.same e1, ⟨⟨upd_same, by simp, fun x hx => by rw [List.mem_singleton.mp hx]; decide +kernel⟩, fun z => (by have h := hK1.wla.at_; rw [← z, hl] at h; cases h), fun z => (by have h := hK1.pla.at_; rw [← z, hl] at h; cases h)⟩, by simp, h1, by omega, by omega, by simp; omega, fun v' H' p ws' ps' b hK' hd' hw hc => ?_⟩
    exact k v' H' p ws' ps' ((But.of e1).trans b) hK' ((hA1.same e1).bw hK2.tp b) hd' hw hc
  have only : ∀ (H1 : Hp), BT t H H1 → TP H1 t → tRet (tCall (fun vs H Q E => ∃ d, d ≤ 8 ∧ spPart K d vs H Q E) [] E0 (tCons (tVar 0) (tCons (tVar 1) (tCons (tVar 2) (tCons (tLst (tCons (tC (.str "home")) tNil)) (tCons (tDGet (tVar 1) (tC (.str "room"))) (tCons (tC (.int 8)) tNil))))))) { nx := fun x H' => Q V.non H', rt := Q } [some (.ref t), some (.ref kn), some (.ref na), none, none] H1 := fun H1 b1 hT1 => by
    have hK1 := hK.bt b1 hT1
    refine c_ret (c_callL (c_cons (c_val (val_var rfl) (c_cons (c_val (val_var rfl) (c_cons (c_val (val_var rfl) (c_cons (c_lstV (va_cons val_c va_nil) (by simp) fun l hl => ?_)))))))))
    have e1 := same_new (o := .lst [V.str "home"]) hl
    refine c_cons (c_val (v_dget (val_var rfl) val_c (hK1.same e1).kna kn_rm) (c_cons (c_val val_c (c_nil ?_))))
    exact nohome H1 ws ps (BW.of b1) hK1 (hA.bw hK.tp (BW.of b1)) Q 8 room (by omega) hr1 hr2 (fun v' H' p ws' ps' b hK' hA' hd' hw hc => q v' H' p ws' ps' ((BW.of b1).trans b) hK' hd' hw (by omega)) l hl
  refine sq_ifC ?_
  by_cases hx : xs = []
  · refine c_neNil (val_var rfl) hA.ar fun pe hpe => ⟨false, by rw [decide_eq_true hx]; rfl, iteF (iteF ?_)⟩
    exact only _ (But.of (same_new hpe)) (hK.tp.same (same_new hpe))
  refine c_neNil (val_var rfl) hA.ar fun pe hpe => ⟨true, by rw [decide_eq_false hx]; rfl, iteT ?_⟩
  have e1 := same_new (o := .lst []) hpe
  have hK1 := hK.same e1
  refine c_opL (c_call (va_cons (val_var rfl) (va_cons val_c va_nil)) ⟨t, 4, rfl, hK1.tp, by decide, by decide, fun r H2 hr2' b2 hT2 => c_val val_c ⟨_, _, rfl, rfl, ⟨_, digit_pos, ?_⟩⟩⟩)
  have bt2 := (But.of (S := fun b => b = t) e1).trans b2
  have hK2 := hK.bt bt2 hT2
  have hA2 := hA.bw hK.tp (BW.of bt2)
  by_cases h0 : 0 < r
  · rw [decide_eq_true h0]
    refine iteT ?_
    refine sq_setC (c_callL (c_cons (c_val (val_var rfl) (c_cons (c_val (val_var rfl) (c_cons (c_val (val_var rfl) (c_cons (c_lstV (va_cons val_c va_nil) (by simp) fun l hl => ?_)))))))))
    have e3 := same_new (o := .lst [V.str "home"]) hl
    refine c_cons (c_val (v_dget (val_var rfl) val_c (hK2.same e3).kna kn_rm) (c_cons (c_val val_c (c_nil ?_))))
    refine nohome H2 ws ps (BW.of bt2) hK2 hA2 _ 7 room (by omega) hr1 hr2 (fun v4 H4 p4 ws4 ps4 b4 hK4 hA4 hd4 hw4 hc4 => ?_) l hl
    refine sq_setC (c_callL (c_cons (c_val (val_var rfl) (c_cons (c_val (val_var rfl) (c_cons (c_val (val_var rfl) (c_cons (c_lstV (va_cons val_c va_nil) (by simp) fun l2 hl2 => ?_)))))))))
    refine c_cons (c_val val_c (c_cons (c_val val_c (c_nil ?_))))
    refine nohome H4 ws4 ps4 ((BW.of bt2).trans b4) hK4 hA4 _ 2 3 (by omega) (by omega) (by omega) (fun v5 H5 p5 ws5 ps5 b5 hK5 hA5 hd5 hw5 hc5 => ?_) l2 hl2
    obtain ⟨x, xr, rfl⟩ := List.exists_cons_of_ne_nil hx
    refine c_ret (c_tup' (c_cons (c_val val_c (c_cons (c_tupV (va_cons val_c (va_cons (v_ixL (val_var rfl) val_c hA5.ar.sq (atI_nat (j := 0) rfl)) va_nil)) (by simp) fun pn hpn => c_cons (c_val (val_var rfl) (c_cons (c_val (val_var rfl) (c_nil ⟨sz_of (by simp), fun p hp => ?_⟩)))))))))
    have e6 := same_new (o := .tup [.str "name", .str x]) hpn
    have e7 := same_new (o := .tup [.str "if", .ref pn, v4, v5]) hp
    have b57 := b5.trans (But.of (S := fun b => b = t ∨ b = wl ∨ b = pl) (e6.trans e7))
    refine q (.ref p) _ (.ite (.nm x) p4 p5) ws5 ps5 ((BW.of bt2).trans (b4.trans b57)) (hK5.same (e6.trans e7)) (.tup (SqT.of upd_same) (.cons (.str _) (.cons (dp_mono e7 (mk_nm upd_same)) (.cons (but_dp b57 hK4.mutS (noL_P _) hd4) (.cons (dp_mono (e6.trans e7) hd5) .nil))))) ⟨List.mem_cons_self, by simp [tdep], hw4, hw5⟩ ?_
    simp only [cnt]
    omega
  · rw [decide_eq_false h0]
    exact iteF (only _ bt2 hT2)
end
end Wn
end
section
set_option Elab.async false
set_option linter.all false
set_option maxRecDepth 100000
set_option maxHeartbeats 4000000
namespace Wn
open PySem PySem.Spec PyProof.Rows L2
/-- data that _law_many_parts goes down, d deep at most -/
def MP : Nat → PyData → Prop
  | 0, _ => False
  | d + 1, x => ∃ tg r, x = .tuple (.str tg :: r) ∧ r.length ≤ 5 ∧ (∀ y ∈ r, (∃ s, y = .str s) ∨ (∃ i, y = .int i) ∨ ∃ ds, y = .tuple ds) ∧ noLs r ∧
      (tg = "ask" → ∃ f l j, r = [f, .tuple l, j] ∧ l.length ≤ 10 ∧ noLs l ∧ ∀ y ∈ l, MP d y) ∧ (tg ≠ "ask" → ∀ y ∈ r, (∃ ds, y = .tuple ds) → MP d y)
theorem mp_T : ∀ {d : Nat} {s : Tms}, tdep s ≤ d → MP d (encT s)
  | 0, s, h => by cases s <;> simp only [tdep] at h <;> omega
  | d + 1, .num n, _ => ⟨_, _, rfl, by simp, fun y hy => by rw [List.mem_singleton.mp hy]; exact .inr (.inl ⟨_, rfl⟩), ⟨trivial, trivial⟩, fun h => absurd h (by decide +kernel), fun _ y hy ⟨ds, e⟩ => by rw [List.mem_singleton.mp hy] at e; cases e⟩
  | d + 1, .nm x, _ => ⟨_, _, rfl, by simp, fun y hy => by rw [List.mem_singleton.mp hy]; exact .inl ⟨_, rfl⟩, ⟨trivial, trivial⟩, fun h => absurd h (by decide +kernel), fun _ y hy ⟨ds, e⟩ => by rw [List.mem_singleton.mp hy] at e; cases e⟩
  | d + 1, .op l a b, h => by
    simp only [tdep] at h
    have ta : ∀ s : Tms, ∃ ds, encT s = .tuple ds := fun s => by cases s <;> exact ⟨_, rfl⟩
    refine ⟨kwO l, [encT a, encT b], rfl, by simp, fun y hy => ?_, ⟨noL_T a, noL_T b, trivial⟩, fun h => absurd h (by cases l <;> decide +kernel), fun _ y hy _ => ?_⟩
    · simp only [List.mem_cons, List.not_mem_nil, or_false] at hy
      rcases hy with rfl | rfl
      · exact .inr (.inr (ta a))
      · exact .inr (.inr (ta b))
    · simp only [List.mem_cons, List.not_mem_nil, or_false] at hy
      rcases hy with rfl | rfl
      · exact mp_T (by omega)
      · exact mp_T (by omega)
theorem tupT (s : Tms) : ∃ ds, encT s = .tuple ds := by cases s <;> exact ⟨_, rfl⟩
theorem tupP (s : Pts) : ∃ ds, encP s = .tuple ds := by cases s <;> exact ⟨_, rfl⟩
theorem mp_P {hd : Str → Option Nat} (ar : ∀ f n, hd f = some n → n ≤ 10) : ∀ {d : Nat} {p : Pts} {xs js : List Str}, WFp ("home" : Str) hd 2 xs js p → nst p + 2 ≤ d → MP d (encP p)
  | 0, p, _, _, _, h => by omega
  | d + 1, .give j s, xs, js, w, h => by
    simp only [nst] at h
    refine ⟨_, [.str j, encT s], rfl, by simp, fun y hy => ?_, ⟨trivial, noL_T s, trivial⟩, fun h => absurd h (by decide +kernel), fun _ y hy he => ?_⟩
    · simp only [List.mem_cons, List.not_mem_nil, or_false] at hy
      rcases hy with rfl | rfl
      · exact .inl ⟨_, rfl⟩
      · exact .inr (.inr (tupT s))
    · simp only [List.mem_cons, List.not_mem_nil, or_false] at hy
      rcases hy with rfl | rfl
      · obtain ⟨ds, e⟩ := he; cases e
      · exact mp_T (by have := w.2.1; omega)
  | d + 1, .ask f ss j, xs, js, w, h => by
    simp only [nst] at h
    refine ⟨_, [.str f, .tuple (ss.map encT), .str j], rfl, by simp, fun y hy => ?_, ⟨trivial, noLs_Ts ss, trivial, trivial⟩, fun _ => ⟨_, _, _, rfl, by rw [List.length_map]; exact ar _ _ w.2.1, noLs_Ts ss, fun y hy => ?_⟩, fun h => absurd rfl h⟩
    · simp only [List.mem_cons, List.not_mem_nil, or_false] at hy
      rcases hy with rfl | rfl | rfl
      · exact .inl ⟨_, rfl⟩
      · exact .inr (.inr ⟨_, rfl⟩)
      · exact .inl ⟨_, rfl⟩
    · obtain ⟨s, hs, rfl⟩ := List.mem_map.mp hy
      exact mp_T (by have := (w.1 s hs).2; omega)
  | d + 1, .st tl x s T, xs, js, w, h => by
    simp only [nst] at h
    refine ⟨kwS tl, [.str x, encT s, encP T], rfl, by simp, fun y hy => ?_, ⟨trivial, noL_T s, noL_P T, trivial⟩, fun h => absurd h (by cases tl <;> decide +kernel), fun _ y hy he => ?_⟩
    · simp only [List.mem_cons, List.not_mem_nil, or_false] at hy
      rcases hy with rfl | rfl | rfl
      · exact .inl ⟨_, rfl⟩
      · exact .inr (.inr (tupT s))
      · exact .inr (.inr (tupP T))
    · simp only [List.mem_cons, List.not_mem_nil, or_false] at hy
      rcases hy with rfl | rfl | rfl
      · obtain ⟨ds, e⟩ := he; cases e
      · exact mp_T (by have := w.2.1; omega)
      · exact mp_P ar w.2.2 (by omega)
  | d + 1, .ite s T U, xs, js, w, h => by
    simp only [nst] at h
    refine ⟨_, [encT s, encP T, encP U], rfl, by simp, fun y hy => ?_, ⟨noL_T s, noL_P T, noL_P U, trivial⟩, fun h => absurd h (by decide +kernel), fun _ y hy he => ?_⟩
    · simp only [List.mem_cons, List.not_mem_nil, or_false] at hy
      rcases hy with rfl | rfl | rfl
      · exact .inr (.inr (tupT s))
      · exact .inr (.inr (tupP T))
      · exact .inr (.inr (tupP U))
    · simp only [List.mem_cons, List.not_mem_nil, or_false] at hy
      rcases hy with rfl | rfl | rfl
      · exact mp_T (by have := w.2.1; omega)
      · exact mp_P ar w.2.2.1 (by omega)
      · exact mp_P ar w.2.2.2 (by omega)
  | d + 1, .post j x T U, xs, js, w, h => by
    simp only [nst] at h
    refine ⟨_, [.str j, .str x, encP T, encP U], rfl, by simp, fun y hy => ?_, ⟨trivial, trivial, noL_P T, noL_P U, trivial⟩, fun h => absurd h (by decide +kernel), fun _ y hy he => ?_⟩
    · simp only [List.mem_cons, List.not_mem_nil, or_false] at hy
      rcases hy with rfl | rfl | rfl | rfl
      · exact .inl ⟨_, rfl⟩
      · exact .inl ⟨_, rfl⟩
      · exact .inr (.inr (tupP T))
      · exact .inr (.inr (tupP U))
    · simp only [List.mem_cons, List.not_mem_nil, or_false] at hy
      rcases hy with rfl | rfl | rfl | rfl
      · obtain ⟨ds, e⟩ := he; cases e
      · obtain ⟨ds, e⟩ := he; cases e
      · exact mp_P ar w.2.1 (by omega)
      · exact mp_P ar w.2.2 (by omega)
theorem nst_cnt : ∀ p : Pts, nst p ≤ cnt p
  | .give _ _ => Nat.le_refl _
  | .ask _ _ _ => Nat.le_refl _
  | .st _ _ _ T => by have := nst_cnt T; simp only [nst, cnt]; omega
  | .ite _ T U => by have := nst_cnt T; have := nst_cnt U; simp only [nst, cnt]; omega
  | .post _ _ T U => by have := nst_cnt T; have := nst_cnt U; simp only [nst, cnt]; omega
/-- isinstance(x, tuple) of data -/
theorem isi_tup {K : PySem.W.Frag} {H : Hp} {x : V} {d : PyData} (h : Dp K H x d) (k : (∃ s, d = .str s) ∨ (∃ i, d = .int i) ∨ ∃ ds, d = .tuple ds) : ∃ (t : Value) (b : Bool), TyX K H x t ∧ PySem.W.kitOne K t (.type "tuple") = some b ∧ (b = true → ∃ ds, d = .tuple ds) := by
  rcases k with ⟨s, rfl⟩ | ⟨i, rfl⟩ | ⟨ds, rfl⟩
  · cases dp_str h
    exact ⟨_, false, .base (.str _), kit_ty (by decide +kernel), fun z => by cases z⟩
  · cases dp_int h
    exact ⟨_, false, .base (.int _), kit_ty (by decide +kernel), fun z => by cases z⟩
  · obtain ⟨a, xs, rfl, hS, _⟩ := dp_tup h
    refine ⟨.type "tuple", true, ?_, kit_ty (by decide +kernel), fun _ => ⟨ds, rfl⟩⟩
    rcases hS with (e | ⟨o, e⟩) | ⟨o, its, n, e1, e2, _⟩
    · exact .base (.tup e)
    · exact .fTuple e
    · exact .kTuple e1 e2
theorem cut1 {v : V} : ∀ {rs : List V}, rs.length ≤ 5 → cutV (v :: rs) (some 1) none = rs
  | [], _ => rfl
  | [_], _ => rfl
  | [_, _], _ => rfl
  | [_, _, _], _ => rfl
  | [_, _, _, _], _ => rfl
  | [_, _, _, _, _], _ => rfl
  | _ :: _ :: _ :: _ :: _ :: _ :: _, h => by simp at h
def spMany (K : PySem.W.Frag) (d : Nat) : Sp := fun vs H Q _ => ∃ (v : V) (x : PyData), vs = [v] ∧ Dp K H v x ∧ MP d x ∧ ∀ (i : Int) H', Same H H' → Q (.int i) H'
theorem dpa_at {K : PySem.W.Frag} {H : Hp} {xs : List V} {ds : List PyData} {i : Nat} {x : V} (h : DpAll K H xs ds) (hx : xs[i]? = some x) : ∃ d, d ∈ ds ∧ Dp K H x d := by
  have hi : i < ds.length := by
    have z := (List.getElem?_eq_some_iff.mp hx).1
    rw [dpa_length h] at z; exact z
  obtain ⟨x2, z1, z2⟩ := dpa_get h (List.getElem?_eq_getElem hi)
  rw [hx] at z1
  cases z1
  exact ⟨_, List.getElem_mem hi, z2⟩
theorem noLs_mem : ∀ {ds : List PyData} {d : PyData}, noLs ds → d ∈ ds → noL d
  | d :: ds, x, h, hm => by
    rcases List.mem_cons.mp hm with e | e
    · rw [e]; exact h.1
    · exact noLs_mem h.2 e
theorem dpa_mem {K : PySem.W.Frag} {H : Hp} : ∀ {xs : List V} {ds : List PyData} {x : V}, DpAll K H xs ds → x ∈ xs → ∃ d, d ∈ ds ∧ Dp K H x d
  | _, _, x, .cons h t, hm => by
    rcases List.mem_cons.mp hm with e | e
    · rw [e]; exact ⟨_, List.mem_cons_self, h⟩
    · obtain ⟨d, h1, h2⟩ := dpa_mem t e
      exact ⟨d, List.mem_cons_of_mem _ h1, h2⟩
section
variable {P : Program} {w : World} {K : PySem.W.Frag} {mg : Str → Option Value} {base : Heap} {ad : Nat → Addr} {fd : Nat → FuncData} {cL cT cN cB : Addr}
theorem ok_Lmany_parts (T : Tx K mg ad fd cL cT cN cB) : ∀ d, FnOk P w K mg base CX0 d (ad 47) (fd 47) ["part"] (spMany K d)
  | 0 => none_left fun vs H Q E h => by
    obtain ⟨v, x, _, _, h, _⟩ := h
    exact h
  | d + 1 => by
    have G_Lmany_parts := ok_Lmany_parts T d
    refine T.F_Lmany_parts.ok sc_Lmany_parts (fun vs H Q E h => ?_) (fun cdv A outer s H vs Q E hr h => ?_)
    · obtain ⟨v, x, rfl, _⟩ := h
      rfl
    obtain ⟨v, x, rfl, hv, ⟨tg, r, rfl, hrl, hk, hno, hask, hnask⟩, q⟩ := h
    refine ⟨_, (pss_cons (ps_setLc (i := 1) (own := [("one", 2)]) (by rfl) sc_Lmany_parts.nd rfl rfl (sw_true rfl rfl rfl (by decide +kernel)) (pi_tup (pe_slice sl_tupA (pv 0) (po_some pe_int) po_none)) (blkOk_by (own := [("one", 2)]) (N := ["part", "inner", "one"]) (sc := defScope s_Lmany_parts) (by decide +kernel)) (fun _ _ _ _ _ => (pg_name (i := 2) sc_Lmany_parts.nd rfl (Or.inl rfl))) (fun _ _ _ _ _ => (pts_one (pt_val (pe_callB (id := "isinstance") (call_isiQ (K := K) rfl) (by rfl) T.z_isinstance (by decide +kernel) (pa_cons (pv 2) (pa_cons (pe_bltn (v := .ty "tuple") (by rfl) T.z_tuple (by decide +kernel) rfl) pa_nil)))))) (fun _ _ _ _ _ => (pv 2)))
    (pss_cons (ps_if (pt_cmpR op_eq (pe_ix ix_tup (pv 0) pe_int (fun _ _ => rfl)) pe_str (nomark _)) (pss_one (ps_set (i := 1) sc_Lmany_parts.nd rfl (Or.inl rfl) (pe_callTy (T := "list") call_list_of (by rfl) T.z_list (by decide +kernel) (pa_cons (pe_ix ix_tup (pv 0) pe_int (fun _ _ => rfl)) pa_nil)))) pss_nil)
    (pss_one (ps_ret (pe_op op_add pe_int (pe_callB (id := "sum") (cr_sum rfl) (by rfl) T.z_sum (by decide +kernel) (pa_cons (pe_lc (own := [("one", 2)]) (by rfl) sc_Lmany_parts.nd (pi_list (pv 1)) (blkOk_by (own := [("one", 2)]) (N := ["part", "inner", "one"]) (sc := defScope s_Lmany_parts) (by decide +kernel)) (fun _ _ _ _ _ => (pg_name (i := 2) sc_Lmany_parts.nd rfl (Or.inl rfl))) (fun _ _ _ _ _ => pts_nil) (fun _ _ _ _ _ => (pe_call G_Lmany_parts (hr.mono (by first | decide | omega)) (by rfl) T.m_Lmany_parts T.F_Lmany_parts.kp (b_Lmany_parts T) .nil pass0 (pa_cons (pv 2) pa_nil)))) pa_nil))))))), ?_⟩
    obtain ⟨a, xs, rfl, hS, hx⟩ := dp_tup hv
    obtain ⟨z, rs, rfl, hz, hrs⟩ := dpa_cons hx
    cases dp_str hz
    have lrs : rs.length = r.length := dpa_length hrs
    -- the second half: a list of what is inside
    have half : ∀ (l : Addr) (acc : List V) (H1 : Hp) (a2 : Option V), Same H H1 → H1 l = some (.lst acc) → acc.length ≤ 10 → (∀ y ∈ acc, ∃ dy, Dp K H1 y dy ∧ MP d dy ∧ noL dy) →
        tRet (tOp (rI0 fun i j => V.int (i + j)) (tC (.int 1)) (tCB (rSum K) (tCons (tLc (iList K (tVar 1)) (gName 2) tYes (tCall (spMany K d) [] E0 (tCons (tVar 2) tNil)) [2]) tNil))) { nx := fun x H' => Q V.non H', rt := Q } [some (.ref a), some (.ref l), a2] H1 := fun l acc H1 a2 e1 hl hla hacc => by
      refine c_ret (c_opL (c_val val_c (c_cbL (c_cons ⟨_, rfl, l, rfl, ⟨_, SqL.of hl⟩, fun D hD => ?_⟩))))
      refine lc_list (xs := acc) (fun i H => ∃ ns : List Int, Same H1 H ∧ H D = some (.lst (ns.map .int)) ∧ ns.length = i) ⟨[], same_new hD, upd_same, rfl⟩ (fun i H _ ⟨_, e, _⟩ => SqL.of (e _ _ hl)) (fun i y H hy ⟨ns, e, hDl, hn⟩ => ?_) fun H ⟨ns, e, hDl, hn⟩ => ?_
      · have hi := (List.getElem?_eq_some_iff.mp hy).1
        obtain ⟨dy, d1, d2, d3⟩ := hacc y (List.mem_of_getElem? hy)
        refine ⟨rfl, ?_⟩
        dsimp only [tYes]
        rw [if_pos rfl]
        refine c_call (va_cons (val_var rfl) va_nil) ⟨y, dy, rfl, dp_mono e d1, d2, fun m H' e2 => ?_⟩
        exact ⟨_, e2 _ _ hDl, sz_lt (by rw [List.length_map]; omega), ns ++ [m], but_same (But.mut rfl) (e.trans e2) hD, by rw [upd_same, List.map_append]; rfl, by simp [hn]⟩
      · exact c_nil ⟨D, ns, rfl, SqL.of hDl, _, _, rfl, rfl, q _ _ (e1.trans e)⟩
    refine sq_setC ?_
    refine c_slA (val_var rfl) hS (to_some val_c) to_none (ys := rs) ?_ fun p1 H1 e1 h1 => ⟨p1, rfl, ⟨_, h1⟩, fun D hD => ?_⟩
    · exact cut1 (by omega)
    have hrs1 := dpa_mono e1 hrs
    refine lc_tup (xs := rs) (fun i H => ∃ acc : List V, Same H1 H ∧ H D = some (.lst acc) ∧ acc.length ≤ i ∧ ∀ y ∈ acc, ∃ dy, dy ∈ r ∧ Dp K H1 y dy ∧ ∃ ds, dy = .tuple ds) ⟨[], same_new hD, upd_same, Nat.le_refl _, fun y h => by cases h⟩ (fun i H _ ⟨_, e, _⟩ => same_tup e h1) (fun i y H hy ⟨acc, e, hDl, hn, hacc⟩ => ?_) fun H ⟨acc, e, hDl, hn, hacc⟩ => ?_
    · have hi := (List.getElem?_eq_some_iff.mp hy).1
      obtain ⟨dy, hdy, d1⟩ := dpa_at hrs1 hy
      obtain ⟨ty, bb, t1, t2, t3⟩ := isi_tup (dp_mono e d1) (hk dy hdy)
      refine ⟨rfl, ?_⟩
      refine c_test (c_cbL (c_cons (c_val (val_var rfl) (c_cons (c_val val_c (c_nil ⟨_, _, _, _, bb, rfl, .ty _, t1, t2, bb, rfl, ?_⟩))))))
      cases bb with
      | true =>
        rw [if_pos rfl]
        refine c_val (val_var rfl) ⟨acc, hDl, sz_lt (by omega), acc ++ [y], but_same (But.mut rfl) e hD, upd_same, by simp; omega, fun z hz => ?_⟩
        rcases List.mem_append.mp hz with h | h
        · exact hacc z h
        · rw [List.mem_singleton.mp h]; exact ⟨dy, hdy, d1, t3 rfl⟩
      | false =>
        rw [if_neg (by simp)]
        exact ⟨acc, e, hDl, by omega, hacc⟩
    · have eH := e1.trans e
      refine sq_ifC ?_
      by_cases hta : tg = "ask"
      · subst hta
        obtain ⟨f, l, j, rfl, hl10, hln, hlm⟩ := hask rfl
        obtain ⟨y1, r1, rfl, k1, hrs⟩ := dpa_cons hrs
        obtain ⟨y2, r2, rfl, k2, hrs⟩ := dpa_cons hrs
        obtain ⟨y3, r3, rfl, k3, hrs⟩ := dpa_cons hrs
        cases dpa_nil hrs
        obtain ⟨lt, ls, rfl, hlt, hls⟩ := dp_tup k2
        refine a_eq (b := true) (v_ixT (val_var rfl) val_c (same_tup eH hS) (atI_nat (j := 0) rfl)) val_c rfl (by decide +kernel) _ (iteT ?_)
        refine c_set (c_cbL (c_cons (c_val (v_ixT (val_var rfl) val_c (same_tup eH hS) (atI_nat (j := 2) rfl)) (c_nil ⟨lt, ls, rfl, .inr (same_tup eH hlt), fun l2 hl2 => ?_⟩))))
        have e2 := same_new (o := .lst ls) hl2
        refine half l2 ls _ _ (eH.trans e2) upd_same (by rw [dpa_length hls]; exact hl10) fun y hy => ?_
        obtain ⟨dy, m1, m2⟩ := dpa_mem hls hy
        exact ⟨dy, dp_mono (eH.trans e2) m2, hlm dy m1, noLs_mem hln m1⟩
      · refine a_eq (b := false) (v_ixT (val_var rfl) val_c (same_tup eH hS) (atI_nat (j := 0) rfl)) val_c rfl (decide_eq_false (by intro z; injection z with z; exact hta z)) _ (iteF ?_)
        refine half D acc H _ eH hDl (by omega) fun y hy => ?_
        obtain ⟨dy, m1, m2, m3⟩ := hacc y hy
        exact ⟨dy, dp_mono e m2, hnask hta dy m1 m3, noLs_mem hno m1⟩
end
end Wn
end
section
set_option Elab.async false
set_option linter.all false
set_option maxRecDepth 100000
set_option maxHeartbeats 4000000
namespace Wn
open PySem PySem.Spec PyProof.Rows L2
theorem same_drop {S' : Addr → Prop} {H H1 H' : Hp} (e : But S' H1 H') (sub : ∀ b, S' b → H b = none) (g : Same H H1) : Same H H' := fun b o hb => e b o (fun s => by rw [sub b s] at hb; cases hb) (g b o hb)
theorem cut_take {xs : List V} {n : Nat} (h : n ≤ xs.length) : cutV xs none (some (n : Int)) = xs.take n := by
  unfold cutV
  rw [HT.sIx_none, HT.sIx_nat, Nat.min_eq_left h]
  simp
theorem cut_drop {xs : List V} {n : Nat} (h : n ≤ xs.length) : cutV xs (some (n : Int)) none = xs.drop n := by
  unfold cutV
  rw [HT.sIx_none, HT.sIx_nat, Nat.min_eq_left h]
  rw [List.take_of_length_le]
  rw [List.length_drop]
  omega
theorem kn_all {el hdd wl pl : Addr} {room : Nat} {st : Bool} (y : Str) : fset (fset (fun y => valV (mergeK [] [((Sum.inr ("errands" : Str) : Key), V.ref el), (Sum.inr ("heads" : Str), V.ref hdd), (Sum.inr ("words" : Str), V.ref wl), (Sum.inr ("room" : Str), V.int (room : Nat))]) (Sum.inr y)) "posts" (V.ref pl)) "straight" (V.bl st) y = knf el hdd wl pl room st y := by
  have e0 : valV (mergeK [] [((Sum.inr ("errands" : Str) : Key), V.ref el), (Sum.inr ("heads" : Str), V.ref hdd), (Sum.inr ("words" : Str), V.ref wl), (Sum.inr ("room" : Str), V.int (room : Nat))]) (Sum.inr y) =
      if y = "room" then some (V.int (room : Nat)) else if y = "words" then some (V.ref wl) else if y = "heads" then some (V.ref hdd) else if y = "errands" then some (V.ref el) else none := by
    show valV (putK (putK (putK (putK ([] : List (Key × V)) (Sum.inr ("errands" : Str)) (V.ref el)) (Sum.inr ("heads" : Str)) (V.ref hdd)) (Sum.inr ("words" : Str)) (V.ref wl)) (Sum.inr ("room" : Str)) (V.int (room : Nat))) (Sum.inr y) = _
    simp only [valV_put, Sum.inr.injEq, valV_nil]
  unfold knf
  simp only [fset, e0]
  by_cases h0 : y = "errands"
  · subst h0
    simp only [show ((("errands" : Str) = "heads") = False) from eq_false (by decide +kernel), show ((("errands" : Str) = "words") = False) from eq_false (by decide +kernel), show ((("errands" : Str) = "room") = False) from eq_false (by decide +kernel), show ((("errands" : Str) = "posts") = False) from eq_false (by decide +kernel), show ((("errands" : Str) = "straight") = False) from eq_false (by decide +kernel), if_false, if_true]
  by_cases h1 : y = "heads"
  · subst h1
    simp only [show ((("heads" : Str) = "errands") = False) from eq_false (by decide +kernel), show ((("heads" : Str) = "words") = False) from eq_false (by decide +kernel), show ((("heads" : Str) = "room") = False) from eq_false (by decide +kernel), show ((("heads" : Str) = "posts") = False) from eq_false (by decide +kernel), show ((("heads" : Str) = "straight") = False) from eq_false (by decide +kernel), if_false, if_true]
  by_cases h2 : y = "words"
  · subst h2
    simp only [show ((("words" : Str) = "errands") = False) from eq_false (by decide +kernel), show ((("words" : Str) = "heads") = False) from eq_false (by decide +kernel), show ((("words" : Str) = "room") = False) from eq_false (by decide +kernel), show ((("words" : Str) = "posts") = False) from eq_false (by decide +kernel), show ((("words" : Str) = "straight") = False) from eq_false (by decide +kernel), if_false, if_true]
  by_cases h3 : y = "room"
  · subst h3
    simp only [show ((("room" : Str) = "errands") = False) from eq_false (by decide +kernel), show ((("room" : Str) = "heads") = False) from eq_false (by decide +kernel), show ((("room" : Str) = "words") = False) from eq_false (by decide +kernel), show ((("room" : Str) = "posts") = False) from eq_false (by decide +kernel), show ((("room" : Str) = "straight") = False) from eq_false (by decide +kernel), if_false, if_true]
  by_cases h4 : y = "posts"
  · subst h4
    simp only [show ((("posts" : Str) = "errands") = False) from eq_false (by decide +kernel), show ((("posts" : Str) = "heads") = False) from eq_false (by decide +kernel), show ((("posts" : Str) = "words") = False) from eq_false (by decide +kernel), show ((("posts" : Str) = "room") = False) from eq_false (by decide +kernel), show ((("posts" : Str) = "straight") = False) from eq_false (by decide +kernel), if_false, if_true]
  by_cases h5 : y = "straight"
  · subst h5
    simp only [show ((("straight" : Str) = "errands") = False) from eq_false (by decide +kernel), show ((("straight" : Str) = "heads") = False) from eq_false (by decide +kernel), show ((("straight" : Str) = "words") = False) from eq_false (by decide +kernel), show ((("straight" : Str) = "room") = False) from eq_false (by decide +kernel), show ((("straight" : Str) = "posts") = False) from eq_false (by decide +kernel), if_false, if_true]
  simp only [h0, h1, h2, h3, h4, h5, if_false]
/-- an errand that may be laid -/
structure EOk (hd : Str → Option Nat) (e : Er) : Prop where
  ar : hd e.1 = some e.2.1.length
  ok : Strk e.1 = true
  nk : ∀ x ∈ e.2.1, Strk x = true
  wf : WFp ("home" : Str) hd 2 e.2.1 ["home"] e.2.2
  cn : cnt e.2.2 ≤ 31
structure BkOk (hd : Str → Option Nat) (bk : List Er) : Prop where
  len : bk.length ≤ 6
  all : ∀ e ∈ bk, EOk hd e
  dom : ∀ f n, hd f = some n → n ≤ 4 ∧ ∃ e ∈ bk, e.1 = f
def spBook (K : PySem.W.Frag) : Sp := fun vs H Q _ => ∃ (sa : Addr) (ns : List Int) (start : Nat) (st : Bool), vs = [.ref sa, .int start, .bl st] ∧ SqL K H sa (ns.map .int) ∧ start ≤ 1000 ∧ ∀ v' H' bk hd, Same H H' → Dp K H' v' (encBk bk) → BkOk hd bk → Q v' H'
theorem en_dputC {σ : L2.St} {H : Hp} {td ty tv : TE} {D : Ends} (h : tv σ H fun v H1 => td σ H1 fun x H2 => ty σ H2 fun y H3 => ∃ a H4, x = .ref a ∧ DPut H3 a y v H4 ∧ D.nx σ H4) : sDPut td ty tv D σ H := h
/-- a constant of a list, at a digit -/
theorem c_digit {K : PySem.W.Frag} {σ : L2.St} {H : Hp} {tl : TA} {tt tm : TE} {E : XK} {Q : VK} {ks : List Int} {t : Addr} (hl : ValA tl σ H (ks.map .int)) (hlt : ∀ p, ValA (tCons tt (tCons tm tNil)) σ (upd H p (.lst (ks.map .int))) [.ref t, .int ks.length]) (k0 : 0 < ks.length) (k1 : ks.length ≤ 1000) (hT : TP H t)
    (q : ∀ (k : Int) H', k ∈ ks → (∀ o b, H b = some o → b ≠ t → H' b = some o) → TP H' t → Q (.int k) H') : tOp (rIxL K) (tLst tl) (tCall spDigit [] E (tCons tt (tCons tm tNil))) σ H Q := by
  refine c_opL (c_lstV hl (by rw [List.length_map]; omega) fun l hll => ?_)
  have e1 := same_new (o := .lst (ks.map V.int)) hll
  refine c_call (hlt l) ⟨t, ks.length, rfl, hT.same e1, k0, by omega, fun r H2 hr b2 hT2 => ?_⟩
  have nlt : l ≠ t := fun z => by obtain ⟨z', h⟩ := hT; rw [← z, hll] at h; cases h
  refine ⟨l, _, _, .int ks[r], rfl, rfl, SqL.of (b2 _ _ nlt upd_same), atI_nat (by rw [List.getElem?_map, List.getElem?_eq_getElem hr]; rfl), q _ _ (List.getElem_mem hr) (fun o b h n => b2 _ _ n (e1 _ _ h)) hT2⟩
section
variable {P : Program} {w : World} {K : PySem.W.Frag} {mg : Str → Option Value} {base : Heap} {ad : Nat → Addr} {fd : Nat → FuncData} {cL cT cN cB : Addr}
theorem ok_Lmany_33 (T : Tx K mg ad fd cL cT cN cB) : FnOk P w K mg base CX0 33 (ad 47) (fd 47) ["part"] (spMany K 33) := ok_Lmany_parts T 33
theorem ok_Lturned_book (T : Tx K mg ad fd cL cT cN cB) : FnOk P w K mg base CX0 34 (ad 48) (fd 48) ["script", "start", "straight"] (spBook K) := by
  have G_Ldigit := ok_Ldigit (P := P) (w := w) (base := base) T
  have G_Ltape := ok_Ltape (P := P) (w := w) (base := base) T
  have G_Lwords := ok_Lwords (P := P) (w := w) (base := base) T
  have G_Lturned_body := ok_Lturned_body (P := P) (w := w) (base := base) T
  have G_Lmany_parts := ok_Lmany_33 (P := P) (w := w) (base := base) T
  refine T.F_Lturned_book.ok sc_Lturned_book (fun vs H Q E h => ?_) (fun cdv A outer s H vs Q E hr h => ?_)
  · obtain ⟨sa, ns, start, st, rfl, _⟩ := h
    rfl
  obtain ⟨sa, ns, start, st, rfl, hS, hst, q⟩ := h
  refine ⟨_, (pss_cons (ps_set (i := 3) sc_Lturned_book.nd rfl (Or.inl rfl) (pe_call G_Ltape (hr.mono (by first | decide | omega)) (by rfl) T.m_Ltape T.F_Ltape.kp (b_Ltape T) .nil pass0 (pa_cons (pv 0) (pa_cons (pv 1) pa_nil))))
    (pss_cons (ps_set (i := 4) sc_Lturned_book.nd rfl (Or.inl rfl) (pe_call G_Lwords (hr.mono (by first | decide | omega)) (by rfl) T.m_Lwords T.F_Lwords.kp (b_Lwords T) .nil pass0 (pa_cons (pv 3) (pa_cons (pe_ix ix_list (pe_lst (pa_cons pe_int (pa_cons pe_int (pa_cons pe_int (pa_cons pe_int (pa_cons pe_int (pa_cons pe_int pa_nil))))))) (pe_call G_Ldigit (hr.mono (by first | decide | omega)) (by rfl) T.m_Ldigit T.F_Ldigit.kp (b_Ldigit T) .nil pass0 (pa_cons (pv 3) (pa_cons pe_int pa_nil))) (fun _ _ => rfl)) pa_nil))))
    (pss_cons (ps_set (i := 5) sc_Lturned_book.nd rfl (Or.inl rfl) pe_dnewK)
    (pss_cons (ps_for PassesOwn.never rfl (pi_list (pv 4)) (pg_name (i := 6) sc_Lturned_book.nd rfl (Or.inl rfl))
    (pss_one (ps_dput (hu_of hr) (pv 5) (pv 6) (pe_ix ix_list (pe_lst (pa_cons pe_int (pa_cons pe_int (pa_cons pe_int (pa_cons pe_int (pa_cons pe_int (pa_cons pe_int pa_nil))))))) (pe_call G_Ldigit (hr.mono (by first | decide | omega)) (by rfl) T.m_Ldigit T.F_Ldigit.kp (b_Ldigit T) .nil pass0 (pa_cons (pv 3) (pa_cons pe_int pa_nil))) (fun _ _ => rfl)) rfl)))
    (pss_cons (ps_set (i := 7) sc_Lturned_book.nd rfl (Or.inl rfl) (pe_ix ix_list (pe_lst (pa_cons pe_int (pa_cons pe_int (pa_cons pe_int (pa_cons pe_int (pa_cons pe_int (pa_cons pe_int (pa_cons pe_int pa_nil)))))))) (pe_call G_Ldigit (hr.mono (by first | decide | omega)) (by rfl) T.m_Ldigit T.F_Ldigit.kp (b_Ldigit T) .nil pass0 (pa_cons (pv 3) (pa_cons pe_int pa_nil))) (fun _ _ => rfl)))
    (pss_cons (ps_set (i := 8) sc_Lturned_book.nd rfl (Or.inl rfl) (pe_lst pa_nil))
    (pss_cons (ps_for PassesOwn.never rfl (pi_range1 (by rfl) T.z_range (pa_cons (pe_callB (id := "len") call_len_seq (by rfl) T.z_len (by decide +kernel) (pa_cons (pv 4) pa_nil)) pa_nil)) (pg_name (i := 9) sc_Lturned_book.nd rfl (Or.inl rfl))
    (pss_cons (ps_set (i := 10) sc_Lturned_book.nd rfl (Or.inl rfl) (pe_call G_Ltape (hr.mono (by first | decide | omega)) (by rfl) T.m_Ltape T.F_Ltape.kp (b_Ltape T) .nil pass0 (pa_cons (pv 0) (pa_cons (pe_op op_add (pe_op op_add (pv 1) pe_int) (pv 9)) pa_nil))))
    (pss_cons (ps_set (i := 11) sc_Lturned_book.nd rfl (Or.inl rfl) (pe_call G_Lwords (hr.mono (by first | decide | omega)) (by rfl) T.m_Lwords T.F_Lwords.kp (b_Lwords T) .nil pass0 (pa_cons (pv 10) (pa_cons pe_int pa_nil))))
    (pss_cons (ps_set (i := 12) sc_Lturned_book.nd rfl (Or.inl rfl) (pe_slice sl_list (pv 11) po_none (po_some (pe_dget (hu_of hr) (pv 5) (pe_ix ix_list (pv 4) (pv 9) (fun _ _ => rfl)) (fun _ _ => rfl)))))
    (pss_cons (ps_set (i := 13) sc_Lturned_book.nd rfl (Or.inl rfl) (pe_disp (pps_cons pe_str (pv 4) (pps_cons pe_str (pv 5) (pps_cons pe_str (pe_slice sl_list (pv 11) (po_some (pe_callB (id := "len") call_len_seq (by rfl) T.z_len (by decide +kernel) (pa_cons (pv 12) pa_nil))) po_none) (pps_cons pe_str (pv 7) pps_nil)))) (by rfl) (by rfl) (fun z => by cases z) (by decide)))
    (pss_cons (ps_dput (hu_of hr) (pv 13) pe_str (pe_call G_Lwords (hr.mono (by first | decide | omega)) (by rfl) T.m_Lwords T.F_Lwords.kp (b_Lwords T) .nil pass0 (pa_cons (pv 10) (pa_cons pe_int pa_nil))) rfl)
    (pss_cons (ps_dput (hu_of hr) (pv 13) pe_str (pv 2) rfl)
    (pss_cons (ps_set (i := 14) sc_Lturned_book.nd rfl (Or.inl rfl) (pe_call G_Lturned_body (hr.mono (by first | decide | omega)) (by rfl) T.m_Lturned_body T.F_Lturned_body.kp (b_Lturned_body T) .nil pass0 (pa_cons (pv 10) (pa_cons (pv 13) (pa_cons (pv 12) pa_nil)))))
    (pss_cons (ps_if (pt_cmpR op_gt (pe_call G_Lmany_parts (hr.mono (by first | decide | omega)) (by rfl) T.m_Lmany_parts T.F_Lmany_parts.kp (b_Lmany_parts T) .nil pass0 (pa_cons (pv 14) pa_nil)) pe_int (nomark _)) (pss_one (ps_set (i := 14) sc_Lturned_book.nd rfl (Or.inl rfl) (pe_tup (pa_cons pe_str (pa_cons pe_str (pa_cons (pe_tup (pa_cons pe_str (pa_cons (pv 9) pa_nil))) pa_nil)))))) pss_nil)
    (pss_one (ps_expr (pe_bm PySem.F.plainAttrs_list PySem.F.slot_list_append PySem.F.type_list_append mt_append (pv 8) (pa_cons (pe_tup (pa_cons (pe_ix ix_list (pv 4) (pv 9) (fun _ _ => rfl)) (pa_cons (pe_callTy (T := "tuple") call_tuple_of (by rfl) T.z_tuple (by decide +kernel) (pa_cons (pv 12) pa_nil)) (pa_cons (pv 14) pa_nil)))) pa_nil)))))))))))))
    (pss_one (ps_ret (pe_callTy (T := "tuple") call_tuple_of (by rfl) T.z_tuple (by decide +kernel) (pa_cons (pv 8) pa_nil))))))))))), ?_⟩
  refine sq_setC (c_call (va_cons (val_var rfl) (va_cons (val_var rfl) va_nil)) ⟨sa, ns, start, rfl, hS, fun t0 z0 ht0 => ?_⟩)
  have e1 := same_new (o := .lst [V.int z0]) ht0
  have hT1 : TP (upd H t0 (.lst [V.int z0])) t0 := ⟨_, upd_same⟩
  generalize upd H t0 (.lst [V.int z0]) = H1 at *
  have tn : ∀ {H2 H3 : Hp}, Same H H2 → (∀ o b, H2 b = some o → b ≠ t0 → H3 b = some o) → Same H H3 := fun e f b o hb => f o b (e _ _ hb) (fun z => by rw [z, ht0] at hb; cases hb)
  refine sq_setC (c_callL (c_cons (c_val (val_var rfl) (c_cons ?_))))
  refine c_digit (ks := [1, 2, 2, 3, 4, 6]) (t := t0) (va_cons val_c (va_cons val_c (va_cons val_c (va_cons val_c (va_cons val_c (va_cons val_c va_nil)))))) (fun p => va_cons (val_var rfl) (va_cons val_c va_nil)) (by simp) (by simp) hT1 fun k0 H2 hk0 f2 hT2 => c_nil ?_
  have e2 := tn e1 f2
  obtain ⟨m, rfl, hm1, hm2⟩ : ∃ m : Nat, k0 = (m : Int) ∧ 1 ≤ m ∧ m ≤ 6 := ⟨k0.toNat, by simp at hk0; omega, by simp at hk0; omega, by simp at hk0; omega⟩
  refine ⟨t0, m, rfl, hT2, by omega, fun el H3 errs b3 hT3 hel hel3 hlen hok => ?_⟩
  have e3 := same_drop b3 (fun b hb => by rw [hb]; exact ht0) e2
  have hAR3 : AR H3 el errs := ⟨hel3, by omega, fun x hx => wok_k (hok x hx)⟩
  refine sq_setC (fun hdd hhdd => ?_)
  have e34 := same_new (o := .dK []) hhdd
  have hhH : H hdd = none := free_of (fun o ho => ⟨o, e3 _ _ ho⟩) hhdd
  have hD4 : DK (upd H3 hdd (.dK [])) hdd 0 (fun f => ((fun _ => none : Str → Option Nat) f).map fun n => V.int (n : Nat)) := DK.new
  have e4 := e3.trans e34
  have hAR4 := hAR3.same e34
  have hT4 := hT3.same e34
  generalize upd H3 hdd (.dK []) = H4 at *
  have lxm : (errs.map V.str).length = errs.length := List.length_map _
  refine st_seq ⟨_, rfl, el, rfl, ⟨_, hAR4.sq⟩, for_list (xs := errs.map V.str) (fun i σ H' => ∃ (a6 : Option V) (hm : Str → Option Nat), σ = [some (.ref sa), some (.int start), some (.bl st), some (.ref t0), some (.ref el), some (.ref hdd), a6, none, none, none, none, none, none, none, none] ∧ Same H H' ∧ TP H' t0 ∧ AR H' el errs ∧ DK H' hdd i (fun f => (hm f).map fun n => V.int (n : Nat)) ∧ (∀ f ∈ errs.take i, ∃ n, hm f = some n) ∧ (∀ f n, hm f = some n → n ≤ 4 ∧ f ∈ errs)) ?_ ?_ ?_ ?_⟩
  · exact ⟨none, _, rfl, e4, hT4, hAR4, hD4, fun f h => by simp at h, fun f n h => by cases h⟩
  · rintro i σ H' _ ⟨a6, hm, _, _, _, h, _⟩
    exact h.sq
  · rintro i x σ H5 hxi ⟨a6, hm, rfl, e5, hT5, hA5, hD5, hd1, hd2⟩
    rw [List.getElem?_map] at hxi
    cases hei : errs[i]? with
    | none => rw [hei] at hxi; cases hxi
    | some f =>
    rw [hei] at hxi
    cases hxi
    have hi : i < errs.length := (List.getElem?_eq_some_iff.mp hei).1
    refine en_dputC (c_digit (ks := [1, 2, 1, 0, 3, 4]) (t := t0) (va_cons val_c (va_cons val_c (va_cons val_c (va_cons val_c (va_cons val_c (va_cons val_c va_nil)))))) (fun p => va_cons (val_var rfl) (va_cons val_c va_nil)) (by simp) (by simp) hT5 fun k6 H6 hk6 f6 hT6 => ?_)
    obtain ⟨n, rfl, hn4⟩ : ∃ n : Nat, k6 = (n : Int) ∧ n ≤ 4 := ⟨k6.toNat, by simp at hk6; omega, by simp at hk6; omega⟩
    have hA6 : AR H6 el errs := ⟨f6 _ _ hA5.at_ (tp_ne hT5 hA5.at_), hA5.len, hA5.ok⟩
    have hD6 : DK H6 hdd i (fun f => (hm f).map fun n => V.int (n : Nat)) := by
      obtain ⟨kvs, a, b, c⟩ := hD5
      obtain ⟨z, hz⟩ := hT5
      exact ⟨kvs, f6 _ _ a (fun z' => by rw [z', hz] at a; cases a), b, c⟩
    refine c_val (val_var rfl) (c_val (val_var rfl) (r_dput hD6 (by omega) fun kvs2 hdk2 => ?_))
    have bm : But (fun b => b = hdd) H6 (upd H6 hdd (.dK kvs2)) := But.mut rfl
    have e7 := same_drop bm (fun b hb => by rw [hb]; exact hhH) (tn e5 f6)
    obtain ⟨kvs6, hk6', _, _⟩ := hD6
    have neh : el ≠ hdd := fun z => by rw [← z, hA6.at_] at hk6'; cases hk6'
    have nth : t0 ≠ hdd := fun z => by obtain ⟨y, hy⟩ := hT6; rw [← z, hy] at hk6'; cases hk6'
    refine ⟨_, fset hm f n, rfl, e7, ?_, hA6.upd neh, hdk2.ext fun y => fset_map y, fun g hg => ?_, fun g n' hg => ?_⟩
    · obtain ⟨y, hy⟩ := hT6; exact ⟨y, by rw [upd_ne nth]; exact hy⟩
    · by_cases eg : g = f
      · exact ⟨n, by rw [eg]; exact fset_same⟩
      · rw [take_snoc hei] at hg
        obtain ⟨n', h'⟩ := hd1 g ((List.mem_append.mp hg).resolve_right (fun z => eg (List.mem_singleton.mp z)))
        exact ⟨n', by rw [fset_ne eg]; exact h'⟩
    · by_cases eg : g = f
      · rw [eg, fset_same] at hg
        cases hg
        exact ⟨hn4, by rw [eg]; exact List.mem_of_getElem? hei⟩
      · rw [fset_ne eg] at hg
        exact hd2 g n' hg
  · rintro σ H5 ⟨a6, hd, rfl, e5, hT5, hA5, hD5, hd1, hd2⟩
    rw [lxm] at hd1 hD5
    rw [List.take_length] at hd1
    dsimp only
    refine sq_setC (c_digit (ks := [3, 5, 7, 9, 9, 11, 13]) (t := t0) (va_cons val_c (va_cons val_c (va_cons val_c (va_cons val_c (va_cons val_c (va_cons val_c (va_cons val_c va_nil))))))) (fun p => va_cons (val_var rfl) (va_cons val_c va_nil)) (by simp) (by simp) hT5 fun k6 H6 hk6 f6 hT6 => ?_)
    obtain ⟨room, rfl, hro1, hro2⟩ : ∃ n : Nat, k6 = (n : Int) ∧ 1 ≤ n ∧ n ≤ 13 := ⟨k6.toNat, by simp at hk6; omega, by simp at hk6; omega, by simp at hk6; omega⟩
    have hA6 : AR H6 el errs := ⟨f6 _ _ hA5.at_ (tp_ne hT5 hA5.at_), hA5.len, hA5.ok⟩
    have hD6 : DK H6 hdd 10 (fun f => (hd f).map fun n => V.int (n : Nat)) := by
      obtain ⟨kvs, a, b, c⟩ := hD5
      obtain ⟨z, hz⟩ := hT5
      exact ⟨kvs, f6 _ _ a (fun z' => by rw [z', hz] at a; cases a), by omega, c⟩
    have e6 := tn e5 f6
    clear hD5 hA5 hT5 e5 f6 hT6 hk6
    refine sq_setC (c_lstV va_nil (by simp) fun fl hfl => ?_)
    have e7 := same_new (o := .lst []) hfl
    have hfl7 : upd H6 fl (.lst []) fl = some (.lst []) := upd_same
    generalize upd H6 fl (.lst []) = H7 at *
    refine sq_forR (n := errs.length) (v_is (v_len (val_var rfl) (.inl (hA6.same e7).sq)) (by rw [lxm])) (by omega) (fun k σ H' => ∃ (a9 a10 a11 a12 a13 a14 : Option V) (acc : List V) (bk : List Er), σ = [some (.ref sa), some (.int start), some (.bl st), some (.ref t0), some (.ref el), some (.ref hdd), a6, some (.int room), some (.ref fl), a9, a10, a11, a12, a13, a14] ∧ Same H6 H' ∧ H' fl = some (.lst acc) ∧ DpAll K H' acc (bk.map encR) ∧ bk.map (fun e => e.1) = errs.take k ∧ (∀ e ∈ bk, EOk hd e)) ?_ ?_ ?_
    · exact ⟨none, none, none, none, none, none, [], [], rfl, e7, hfl7, .nil, by simp, fun e h => by cases h⟩
    · rintro k σ Ha hk ⟨a9, a10, a11, a12, a13, a14, acc, bk, rfl, ea, hfa, hacc, hbk, hok⟩
      have hAa := hA6.same ea
      have hDa := hD6.mono ea
      have hek : errs[k]? = some errs[k] := List.getElem?_eq_getElem hk
      have hfk := List.getElem_mem hk
      obtain ⟨n, hdn⟩ := hd1 _ hfk
      obtain ⟨hn4, _⟩ := hd2 _ _ hdn
      have eqk : (start : Int) + 1 + (k : Int) = ((start + 1 + k : Nat) : Int) := by omega
      refine sq_setC (c_call (vs := [.ref sa, .int ((start + 1 + k : Nat) : Int)]) (va_cons (val_var rfl) (va_cons (v_is (v_I0 (v_I0 (val_var rfl) val_c) (val_var rfl)) (show V.int ((start : Int) + 1 + (k : Int)) = _ by rw [eqk])) va_nil)) ⟨sa, ns, start + 1 + k, rfl, (e6.trans ea).seq hS, fun t zt ht => ?_⟩)
      have eb := same_new (o := .lst [V.int zt]) ht
      have hTb : TP (upd Ha t (.lst [V.int zt])) t := ⟨_, upd_same⟩
      generalize upd Ha t (.lst [V.int zt]) = Hb at *
      refine sq_setC (c_call (va_cons (val_var rfl) (va_cons val_c va_nil)) ⟨t, 16, rfl, hTb, by decide, fun wa Hc ws bc hTc hwa hwac hwl hwk => ?_⟩)
      have ec : Same Ha Hc := same_drop bc (fun b hb => by rw [hb]; exact ht) eb
      have nE : (errs.map V.str)[k]? = some (.str errs[k]) := by rw [List.getElem?_map, hek]; rfl
      have hvn : Val (tDGet (tVar 5) (tOp (rIxL K) (tVar 4) (tVar 9))) [some (.ref sa), some (.int start), some (.bl st), some (.ref t0), some (.ref el), some (.ref hdd), a6, some (.int room), some (.ref fl), some (.int k), some (.ref t), some (.ref wa), a12, a13, a14] Hc (.int n) := v_dget (val_var rfl) (v_ixL (val_var rfl) (val_var rfl) (hAa.same ec).sq (atI_nat nE)) (hDa.mono ec) (by rw [hdn]; rfl)
      refine sq_setC (c_slL (val_var rfl) (SqL.of hwac) to_none (to_some hvn) fun na hna => ?_)
      have lws : (ws.map V.str).length = ws.length := List.length_map _
      rw [cut_take (by rw [lws]; omega), ← List.map_take]
      have ed := same_new (o := .lst ((ws.take n).map V.str)) hna
      have hAn : AR (upd Hc na (.lst ((ws.take n).map V.str))) na (ws.take n) := ⟨upd_same, by rw [List.length_take]; omega, fun x hx => wok_k (hwk x (List.mem_of_mem_take hx))⟩
      have hTd := hTc.same ed
      have hwad := ed _ _ hwac
      have ecd := ec.trans ed
      generalize upd Hc na (.lst ((ws.take n).map V.str)) = Hd at *
      refine sq_setC (fun kn hkn => c_val val_c (c_val (val_var rfl) (c_val val_c (c_val (val_var rfl) (c_val val_c ?_)))))
      have ee := same_new (o := .dK []) hkn
      have lnn : ((ws.take n).map V.str).length = n := by rw [List.length_map, List.length_take]; omega
      refine c_slL (val_var rfl) (SqL.of (ee _ _ hwad)) (to_some (v_is (v_len (val_var rfl) (.inl (hAn.same ee).sq)) (by rw [lnn]))) to_none fun wl hwl' => ?_
      rw [cut_drop (by rw [lws]; omega), ← List.map_drop]
      refine c_val val_c (c_val (val_var rfl) ⟨?_, [(Sum.inr ("errands" : Str), V.ref el), (Sum.inr ("heads" : Str), V.ref hdd), (Sum.inr ("words" : Str), V.ref wl), (Sum.inr ("room" : Str), V.int (room : Nat))], rfl, by simp, ?_⟩)
      · rw [upd_ne (fun z => by rw [← z, upd_same] at hwl'; cases hwl'), upd_same]
      have nkw : kn ≠ wl := fun z => by rw [← z, upd_same] at hwl'; cases hwl'
      have ewl := same_new (o := .lst ((ws.drop n).map V.str)) hwl'
      have hwlf : upd (upd (upd Hd kn (.dK [])) wl (.lst ((ws.drop n).map V.str))) kn (.dK (mergeK [] [((Sum.inr ("errands" : Str) : Key), V.ref el), (Sum.inr ("heads" : Str), V.ref hdd), (Sum.inr ("words" : Str), V.ref wl), (Sum.inr ("room" : Str), V.int (room : Nat))])) wl = some (.lst ((ws.drop n).map V.str)) := by rw [upd_ne (Ne.symm nkw), upd_same]
      have hkf : DK (upd (upd (upd Hd kn (.dK [])) wl (.lst ((ws.drop n).map V.str))) kn (.dK (mergeK [] [((Sum.inr ("errands" : Str) : Key), V.ref el), (Sum.inr ("heads" : Str), V.ref hdd), (Sum.inr ("words" : Str), V.ref wl), (Sum.inr ("room" : Str), V.int (room : Nat))]))) kn 4 (fun y => valV (mergeK [] [((Sum.inr ("errands" : Str) : Key), V.ref el), (Sum.inr ("heads" : Str), V.ref hdd), (Sum.inr ("words" : Str), V.ref wl), (Sum.inr ("room" : Str), V.int (room : Nat))]) (Sum.inr y)) := ⟨_, upd_same, length_mergeK _ _, fun _ => rfl⟩
      have edf : Same Hd (upd (upd (upd Hd kn (.dK [])) wl (.lst ((ws.drop n).map V.str))) kn (.dK (mergeK [] [((Sum.inr ("errands" : Str) : Key), V.ref el), (Sum.inr ("heads" : Str), V.ref hdd), (Sum.inr ("words" : Str), V.ref wl), (Sum.inr ("room" : Str), V.int (room : Nat))]))) := same_drop (But.mut (S := fun b => b = kn) rfl) (fun b hb => by rw [hb]; exact hkn) (ee.trans ewl)
      have hwlHd : Hd wl = none := free_of (fun o ho => ⟨o, ee _ _ ho⟩) hwl'
      clear ewl hwl' ee
      generalize upd (upd (upd Hd kn (.dK [])) wl (.lst ((ws.drop n).map V.str))) kn (.dK (mergeK [] [((Sum.inr ("errands" : Str) : Key), V.ref el), (Sum.inr ("heads" : Str), V.ref hdd), (Sum.inr ("words" : Str), V.ref wl), (Sum.inr ("room" : Str), V.int (room : Nat))])) = Hf at *
      have hTf := hTd.same edf
      have hAnf := hAn.same edf
      have hAwf : AR Hf wl (ws.drop n) := ⟨hwlf, by rw [List.length_drop]; omega, fun x hx => wok_k (hwk x (List.mem_of_mem_drop hx))⟩
      refine sq_dputC (c_call (va_cons (val_var rfl) (va_cons val_c va_nil)) ⟨t, 16, rfl, hTf, by decide, fun pl Hg ps bg hTg hpl hplg hpll hpok => ?_⟩)
      have hAng := hAnf.bt hTf bg
      have hAwg := hAwf.bt hTf bg
      have hApg : AR Hg pl ps := ⟨hplg, by omega, fun x hx => wok_k (hpok x hx)⟩
      have hkg := hkf.bt hTf bg
      have nwp : wl ≠ pl := fun z => by rw [← z, hwlf] at hpl; cases hpl
      have nnp : na ≠ pl := fun z => by rw [← z, hAnf.at_] at hpl; cases hpl
      have nnw : na ≠ wl := fun z => by rw [← z, hAn.at_] at hwlHd; cases hwlHd
      have nel : ∀ b, Ha b = none → el ≠ b := fun b hb z => by rw [← z, hAa.at_] at hb; cases hb
      have hknH : Ha kn = none := free_of (fun o ho => ⟨o, ecd _ _ ho⟩) hkn
      have hwlH : Ha wl = none := free_of (fun o ho => ⟨o, ecd _ _ ho⟩) hwlHd
      have hplH : Ha pl = none := free_of (fun o ho => ⟨o, (ecd.trans edf) _ _ ho⟩) hpl
      have lk : ∀ {a : Addr} {xs : List Str}, AR Hg a xs → a ≠ kn := fun {a} {xs} h z => by
        obtain ⟨kvs, hk', _⟩ := hkg
        rw [← z, h.at_] at hk'; cases hk'
      refine c_val (val_var rfl) (c_val val_c (r_dput hkg (by decide) fun kvs2 hdk2 => ?_))
      refine sq_dput (val_var rfl) (val_var rfl) val_c hdk2 (by decide) fun kvs3 hdk3 => ?_
      rw [upd_upd] at hdk3 ⊢
      have bgi : But (fun b => b = kn) Hg (upd Hg kn (.dK kvs3)) := But.mut rfl
      have eai : Same Ha (upd Hg kn (.dK kvs3)) := same_drop bgi (fun b hb => by rw [hb]; exact hknH) (same_drop bg (fun b hb => by rw [hb]; exact ht) (ecd.trans edf))
      have hTi : TP (upd Hg kn (.dK kvs3)) t := by
        obtain ⟨y, hy⟩ := hTg
        exact ⟨y, by rw [upd_ne (fun z => by obtain ⟨y', hy'⟩ := hTd; rw [← z, hy'] at hkn; cases hkn)]; exact hy⟩
      have hKi : KN (upd Hg kn (.dK kvs3)) t kn el hdd wl pl errs hd room st (ws.drop n) ps := ⟨hTi, (hdk3.ext kn_all).up (by decide), hAa.same eai, fun z => (by rw [z] at hk; exact absurd hk (by simp)), hDa.mono eai, fun f hf => (by
        obtain ⟨n', h'⟩ := hd1 f hf
        exact ⟨n', h', (hd2 f n' h').1⟩), hAwg.upd (lk hAwg), hApg.upd (lk hApg), by rw [List.length_drop]; omega, nwp, ⟨nel wl hwlH, nel pl hplH⟩, by omega, hpok⟩
      have hLi : LA (upd Hg kn (.dK kvs3)) t wl pl na (ws.take n) := ⟨hAng.upd (lk hAng), nnw, nnp⟩
      generalize upd Hg kn (.dK kvs3) = Hi at *
      refine sq_setC (c_call (va_cons (val_var rfl) (va_cons (val_var rfl) (va_cons (val_var rfl) va_nil))) ⟨t, kn, el, hdd, wl, pl, errs, hd, room, st, ws.drop n, ps, na, ws.take n, rfl, hKi, hLi, hro1, hro2, by rw [List.length_take]; omega, fun v5 H5 p5 ws5 ps5 b5 hK5 hd5 hw5 hc5 => ?_⟩)
      have e5 : Same Ha H5 := same_drop b5 (fun b hb => by
        rcases hb with hb | hb | hb
        · rw [hb]; exact ht
        · rw [hb]; exact hwlH
        · rw [hb]; exact hplH) eai
      have hL5 := hLi.bw hKi.tp b5
      have htk : (ws.take n).length = n := by rw [List.length_take]; omega
      -- the end of a turn
      have fin : ∀ (v6 : V) (H6' : Hp) (p6 : Pts) (tp pe : Addr) (R : VK), Same Ha H6' → Dp K H6' v6 (encP p6) → WFp ("home" : Str) hd 2 (ws.take n) ["home"] p6 → cnt p6 ≤ 31 → H6' tp = none → (upd H6' tp (.tup ((ws.take n).map V.str))) pe = none →
          (∀ H8, (∃ (acc : List V) (bk : List Er), Same H6 H8 ∧ H8 fl = some (.lst acc) ∧ DpAll K H8 acc (bk.map encR) ∧ bk.map (fun e => e.1) = errs.take (k + 1) ∧ (∀ e ∈ bk, EOk hd e)) → R .non H8) →
          rAppend (.ref fl) [.ref pe] (upd (upd H6' tp (.tup ((ws.take n).map V.str))) pe (.tup [.str errs[k], .ref tp, v6])) R := fun v6 H6' p6 tp pe R e6' hd6 hw6 hc6 htp hpe kk => by
        have e7 := same_new (o := .tup ((ws.take n).map V.str)) htp
        have e8 := same_new (o := .tup [.str errs[k], .ref tp, v6]) hpe
        have e68 := e6'.trans (e7.trans e8)
        have hf8 := e68 _ _ hfa
        have lacc : acc.length ≤ 10 := by
          have z : (bk.map (fun e => e.1)).length = bk.length := List.length_map _
          rw [hbk, List.length_take] at z
          rw [dpa_length hacc, List.length_map]; omega
        have dr : Dp K (upd (upd H6' tp (.tup ((ws.take n).map V.str))) pe (.tup [.str errs[k], .ref tp, v6])) (.ref pe) (encR (errs[k], ws.take n, p6)) := mk_er (SqT.of upd_same) (same_tup e8 (SqT.of upd_same)) (dp_mono (e7.trans e8) hd6)
        refine ⟨fl, acc, _, rfl, rfl, hf8, sz_lt (by omega), kk _ ?_⟩
        have bm : But (fun b => b = fl) (upd (upd H6' tp (.tup ((ws.take n).map V.str))) pe (.tup [.str errs[k], .ref tp, v6])) (upd (upd (upd H6' tp (.tup ((ws.take n).map V.str))) pe (.tup [.str errs[k], .ref tp, v6])) fl (.lst (acc ++ [.ref pe]))) := But.mut rfl
        have mf : MutS (fun b => b = fl) (upd (upd H6' tp (.tup ((ws.take n).map V.str))) pe (.tup [.str errs[k], .ref tp, v6])) := mutS1 (by rw [hf8]; trivial)
        refine ⟨acc ++ [.ref pe], bk ++ [(errs[k], ws.take n, p6)], same_drop bm (fun b hb => by rw [hb]; exact hfl) (ea.trans e68), upd_same, ?_, ?_, ?_⟩
        · rw [List.map_append]
          exact dpa_snoc (but_dpa bm mf (noLs_Rs _) (dpa_mono e68 hacc)) (but_dp bm mf (noL_R _) dr)
        · rw [List.map_append, hbk, take_snoc hek]; rfl
        · intro e he
          rcases List.mem_append.mp he with he | he
          · exact hok e he
          · rw [List.mem_singleton.mp he]
            exact ⟨by rw [hdn]; show some n = some (ws.take n).length; rw [htk], hA6.ok _ hfk, fun x hx => wok_k (hwk x (List.mem_of_mem_take hx)), hw6, hc6⟩
      refine sq_ifC (c_test (c_opL (c_call (va_cons (val_var rfl) va_nil) ⟨v5, encP p5, rfl, hd5, mp_P (fun f n' h' => by have := (hd2 f n' h').1; omega) hw5 (by have := nst_cnt p5; omega), fun i H6' e6' => c_val val_c ⟨_, _, rfl, rfl, _, rfl, ?_⟩⟩)))
      have hA6' := hAa.same (e5.trans e6')
      have hf6 := (e5.trans e6') _ _ hfa
      by_cases hb : (120 : Int) < i
      · rw [decide_eq_true hb]
        refine iteT ?_
        refine c_set (c_tup' (c_cons (c_val val_c (c_cons (c_val val_c (c_cons (c_tupV (va_cons val_c (va_cons (val_var rfl) va_nil)) (by simp) fun pn hpn => c_nil ⟨sz_of (by simp), fun pg hpg => ?_⟩)))))))
        have e7 := same_new (o := .tup [.str "number", .int k]) hpn
        have e8 := same_new (o := .tup [.str "give", .str "home", .ref pn]) hpg
        have e78 := e7.trans e8
        have hL8 := (hL5.same e6').same e78
        refine c_drop (c_bm (val_var rfl) ⟨_, SqL.of (e78 _ _ hf6)⟩ (c_cons (c_tup' (c_cons (c_val (v_ixL (val_var rfl) (val_var rfl) (hA6'.same e78).sq (atI_nat nE)) (c_cons (c_cbL (c_cons (c_val (val_var rfl) (c_nil ⟨na, _, rfl, .inl ⟨hL8.ar.sq, fun tp htp => c_cons (c_val (val_var rfl) (c_nil ⟨sz_of (by simp), fun pe hpe => c_nil ?_⟩))⟩⟩))))))))))
        exact fin (.ref pg) _ (.give "home" (.num k)) tp pe _ (e5.trans (e6'.trans e78)) (.tup (SqT.of upd_same) (.cons (.str _) (.cons (.str _) (.cons (dp_mono e8 (mk_num upd_same)) .nil)))) ⟨trivial, by simp [tdep], by simp⟩ (by simp [cnt]) htp hpe (fun H8 ⟨acc', bk', z⟩ => ⟨_, _, _, _, _, _, acc', bk', rfl, z⟩)
      · rw [decide_eq_false hb]
        refine iteF ?_
        have hL8 := hL5.same e6'
        unfold tNext
        dsimp only
        refine c_drop (c_bm (val_var rfl) ⟨_, SqL.of hf6⟩ (c_cons (c_tup' (c_cons (c_val (v_ixL (val_var rfl) (val_var rfl) hA6'.sq (atI_nat nE)) (c_cons (c_cbL (c_cons (c_val (val_var rfl) (c_nil ⟨na, _, rfl, .inl ⟨hL8.ar.sq, fun tp htp => c_cons (c_val (val_var rfl) (c_nil ⟨sz_of (by simp), fun pe hpe => c_nil ?_⟩))⟩⟩))))))))))
        exact fin v5 _ p5 tp pe _ (e5.trans e6') (dp_mono e6' hd5) hw5 hc5 htp hpe (fun H8 ⟨acc', bk', z⟩ => ⟨_, _, _, _, _, _, acc', bk', rfl, z⟩)
    · rintro σ H8 ⟨a9, a10, a11, a12, a13, a14, acc, bk, rfl, ea, hfa, hacc, hbk, hok⟩
      rw [List.take_length] at hbk
      have hbl : bk.length = errs.length := by rw [← hbk, List.length_map]
      refine c_ret (c_cbL (c_cons (c_val (val_var rfl) (c_nil ⟨fl, _, rfl, .inl ⟨SqL.of hfa, fun tp htp => ?_⟩⟩))))
      have e9 := same_new (o := .tup acc) htp
      refine q (.ref tp) _ bk hd (e6.trans (ea.trans e9)) (.tup (SqT.of upd_same) (dpa_mono e9 hacc)) ⟨by omega, hok, fun f n hf => ?_⟩
      obtain ⟨h4, hm⟩ := hd2 f n hf
      rw [← hbk] at hm
      obtain ⟨e, he, rfl⟩ := List.mem_map.mp hm
      exact ⟨h4, e, he, rfl⟩
end
end Wn
end
section
set_option Elab.async false
set_option linter.all false
set_option maxRecDepth 100000
set_option maxHeartbeats 4000000
namespace Wn
open PySem PySem.Spec PyProof.Rows L2
def TD : Pts → Prop
  | .give _ s => tdep s ≤ 2
  | .ask _ ss _ => (∀ s ∈ ss, tdep s ≤ 2) ∧ ss.length ≤ 10
  | .st _ _ s T => tdep s ≤ 2 ∧ TD T
  | .ite s T U => tdep s ≤ 2 ∧ TD T ∧ TD U
  | .post _ _ T U => TD T ∧ TD U
theorem td_of {hd : Str → Option Nat} (ar : ∀ f n, hd f = some n → n ≤ 10) : ∀ {p : Pts} {xs js : List Str}, WFp ("home" : Str) hd 2 xs js p → TD p
  | .give _ s, _, _, w => w.2.1
  | .ask _ ss _, _, _, w => ⟨fun s hs => (w.1 s hs).2, ar _ _ w.2.1⟩
  | .st _ _ s T, _, _, w => ⟨w.2.1, td_of ar w.2.2⟩
  | .ite s T U, _, _, w => ⟨w.2.1, td_of ar w.2.2.1, td_of ar w.2.2.2⟩
  | .post _ _ T U, _, _, w => ⟨td_of ar w.2.1, td_of ar w.2.2⟩
mutual
/-- hand-ons of a turned run in the heap -/
def HH (K : PySem.W.Frag) (H : Hp) : DH Str → Addr → Prop
  | .fin, a => SqT K H a [.int 0]
  | .clo x T nm e, a => ∃ (vT : V) (dn dh : Addr) (bn bh : Nat) (fh : Str → Option V), SqT K H a [.int (htE e + 1 : Nat), .str x, vT, .ref dn, .ref dh] ∧ Dp K H vT (encP T) ∧ TD T ∧ DK H dn bn (fun y => (nm y).map V.int) ∧ DK H dh bh fh ∧ bn + 1 + nst T ≤ 90 ∧ bh + nst T ≤ 90 ∧ HD K H e fh
def HD (K : PySem.W.Frag) (H : Hp) : DE Str → (Str → Option V) → Prop
  | .home h, f => ∃ a, (∀ k, f k = if k = "home" then some (.ref a) else none) ∧ HH K H h a
  | .push j x T nm e, f => ∃ (cl : Addr) (vT : V) (dn dh : Addr) (bn bh : Nat) (fh : Str → Option V), (∀ k, f k = if k = j then some (.ref cl) else fh k) ∧ j ≠ "home" ∧ SqT K H cl [.int (htE e + 1 : Nat), .str x, vT, .ref dn, .ref dh] ∧ Dp K H vT (encP T) ∧ TD T ∧ DK H dn bn (fun y => (nm y).map V.int) ∧ DK H dh bh fh ∧ bn + 1 + nst T ≤ 90 ∧ bh + nst T ≤ 90 ∧ HD K H e fh
end
section
variable {K : PySem.W.Frag} {H H' : Hp}
mutual
theorem HH.same (e : Same H H') : ∀ {h : DH Str} {a : Addr}, HH K H h a → HH K H' h a
  | .fin, a, q => by
    unfold HH at q ⊢
    exact same_tup e q
  | .clo x T nm e', a, q => by
    unfold HH at q ⊢
    obtain ⟨vT, dn, dh, bn, bh, fh, q1, q2, q3, q4, q5, q6, q7, q8⟩ := q
    exact ⟨vT, dn, dh, bn, bh, fh, same_tup e q1, dp_mono e q2, q3, q4.mono e, q5.mono e, q6, q7, HD.same e q8⟩
theorem HD.same (e : Same H H') : ∀ {h : DE Str} {f : Str → Option V}, HD K H h f → HD K H' h f
  | .home h, f, q => by
    unfold HD at q ⊢
    obtain ⟨a, q1, q2⟩ := q
    exact ⟨a, q1, HH.same e q2⟩
  | .push j x T nm e', f, q => by
    unfold HD at q ⊢
    obtain ⟨cl, vT, dn, dh, bn, bh, fh, q0, qj, q1, q2, q3, q4, q5, q6, q7, q8⟩ := q
    exact ⟨cl, vT, dn, dh, bn, bh, fh, q0, qj, same_tup e q1, dp_mono e q2, q3, q4.mono e, q5.mono e, q6, q7, HD.same e q8⟩
end
theorem hh_ht : ∀ {h : DH Str} {a : Addr}, HH K H h a → ∃ rest, SqT K H a (.int (htH h : Nat) :: rest)
  | .fin, a, q => by
    unfold HH at q
    exact ⟨_, q⟩
  | .clo x T nm e, a, q => by
    unfold HH at q
    obtain ⟨vT, dn, dh, bn, bh, fh, q1, _⟩ := q
    exact ⟨_, q1⟩
theorem hd_home : ∀ {e : DE Str} {f : Str → Option V}, HD K H e f → ∃ a rest, f "home" = some (.ref a) ∧ SqT K H a (.int (htE e : Nat) :: rest)
  | .home h, f, q => by
    unfold HD at q
    obtain ⟨a, q1, q2⟩ := q
    obtain ⟨rest, z⟩ := hh_ht q2
    exact ⟨a, rest, by rw [q1, if_pos rfl], z⟩
  | .push j x T nm e, f, q => by
    unfold HD at q
    obtain ⟨cl, vT, dn, dh, bn, bh, fh, q0, qj, q1, q2, q3, q4, q5, q6, q7, q8⟩ := q
    obtain ⟨a, rest, z1, z2⟩ := hd_home q8
    exact ⟨a, rest, by rw [q0, if_neg (Ne.symm qj)]; exact z1, z2⟩
theorem hd_find : ∀ {e : DE Str} {f : Str → Option V} {k : Str} {h : DH Str}, HD K H e f → dfind ("home" : Str) e k = some h → ∃ a, f k = some (.ref a) ∧ HH K H h a
  | .home h0, f, k, h, q, z => by
    unfold HD at q
    obtain ⟨a, q1, q2⟩ := q
    simp only [dfind] at z
    by_cases ek : k = "home"
    · rw [if_pos ek] at z
      cases z
      exact ⟨a, by rw [q1, if_pos ek], q2⟩
    · rw [if_neg ek] at z; cases z
  | .push j x T nm e, f, k, h, q, z => by
    unfold HD at q
    obtain ⟨cl, vT, dn, dh, bn, bh, fh, q0, qj, q1, q2, q3, q4, q5, q6, q7, q8⟩ := q
    simp only [dfind] at z
    by_cases ek : k = j
    · rw [if_pos ek] at z
      cases z
      refine ⟨cl, by rw [q0, if_pos ek], ?_⟩
      unfold HH
      exact ⟨vT, dn, dh, bn, bh, fh, q1, q2, q3, q4, q5, q6, q7, q8⟩
    · rw [if_neg ek] at z
      obtain ⟨a, z1, z2⟩ := hd_find q8 z
      exact ⟨a, by rw [q0, if_neg ek]; exact z1, z2⟩
end
def encV : Ev Str → PyData
  | .ask f ns => .tuple [.str "ask", .str f, .tuple (ns.map .int)]
  | .tell n => .tuple [.str "tell", .int n]
theorem noL_ints : ∀ ns : List Int, noLs (ns.map .int)
  | [] => trivial
  | _ :: r => ⟨trivial, noL_ints r⟩
theorem noL_V : ∀ e : Ev Str, noL (encV e)
  | .ask f ns => ⟨trivial, trivial, noL_ints ns, trivial⟩
  | .tell n => ⟨trivial, trivial, trivial⟩
theorem noLs_Vs : ∀ l : List (Ev Str), noLs (l.map encV)
  | [] => trivial
  | e :: r => ⟨noL_V e, noLs_Vs r⟩
/-- where a run goes -/
def GV (K : PySem.W.Frag) (H : Hp) : Gs Str → V → Prop
  | .give n h, v => ∃ a ah, v = .ref a ∧ SqT K H a [.str "give", .int n, .ref ah] ∧ HH K H h ah
  | .ask f ns h, v => ∃ a t ah, v = .ref a ∧ SqT K H a [.str "ask", .str f, .ref t, .ref ah] ∧ SqT K H t (ns.map .int) ∧ HH K H h ah
theorem valV_any : ∀ {kvs : List (Key × V)} {k : Key} {v : V}, valV kvs k = some v → (kvs.any fun kv => decide (kv.1 = k)) = true
  | [], _, _, h => by cases h
  | p :: r, k, v, h => by
    by_cases e : p.1 = k
    · simp [e]
    · rw [valV_neg e] at h
      rw [List.any_cons, valV_any h, Bool.or_true]
theorem DK.put_old {H : Hp} {d : Addr} {n : Nat} {f : Str → Option V} {x : Str} {v v0 : V} {R : Hp → Prop} (h : DK H d n f) (l : n < 100000) (hx : f x = some v0) (q : ∀ kvs, DK (upd H d (.dK kvs)) d n (fset f x v) → R (upd H d (.dK kvs))) : ∃ a H4, V.ref d = .ref a ∧ DPut H a (.str x) v H4 ∧ R H4 := by
  obtain ⟨kvs, a, b, c⟩ := h
  refine ⟨d, _, rfl, DPut.k (k := Sum.inr x) a (Nat.lt_of_le_of_lt b (Nat.lt_trans l (by decide))), q (putK kvs (Sum.inr x) v) ⟨_, upd_same, ?_, fun y => ?_⟩⟩
  · unfold putK
    rw [if_pos (valV_any (v := v0) (by rw [c]; exact hx)), List.length_map]
    exact b
  · rw [valV_put]
    by_cases e : y = x
    · rw [if_pos (by rw [e]), e, fset_same]
    · rw [if_neg (fun z => e (Sum.inr.inj z)), fset_ne e, c]
abbrev S4 (now tr dn dh : Addr) : Addr → Prop := fun b => b = now ∨ b = tr ∨ b = dn ∨ b = dh
/-- the record of a turned run -/
structure NW (K : PySem.W.Frag) (H : Hp) (now tr : Addr) (fn : Str → Option V) (evs : List (Ev Str)) : Prop where
  dk : DK H now 10 fn
  ft : fn "trail" = some (.ref tr)
  fm : ∃ m : Int, fn "made" = some (.int m)
  tl : ∃ acc, H tr = some (.lst acc) ∧ DpAll K H acc (evs.map encV)
def spAlong (K : PySem.W.Frag) : Sp := fun vs H Q _ => ∃ (now tr dn dh : Addr) (v : V) (fn : Str → Option V) (evs : List (Ev Str)) (p : Pts) (r : Str → Option Int) (e : DE Str) (bn bh : Nat) (fh : Str → Option V) (es : List (Ev Str)) (g : Gs Str),
  vs = [.ref now, v, .ref dn, .ref dh] ∧ NW K H now tr fn evs ∧ evs.length + es.length ≤ 90000 ∧ Dp K H v (encP p) ∧ TD p ∧ DK H dn bn (fun y => (r y).map V.int) ∧ DK H dh bh fh ∧ bn + nst p ≤ 90 ∧ bh + nst p ≤ 90 ∧ HD K (msk (S4 now tr dn dh) H) e fh ∧ now ≠ tr ∧ now ≠ dn ∧ now ≠ dh ∧ tr ≠ dn ∧ tr ≠ dh ∧ dn ≠ dh ∧ along ("home" : Str) p r e = some (es, g) ∧
  ∀ v' H' m, But (S4 now tr dn dh) H H' → NW K H' now tr (fset fn "made" (.int m)) (evs ++ es) → GV K (msk (S4 now tr dn dh) H') g v' → Q v' H'
end Wn
end
section
set_option Elab.async false
set_option linter.all false
set_option maxRecDepth 100000
set_option maxHeartbeats 4000000
namespace Wn
open PySem PySem.Spec PyProof.Rows L2
/-- what a turned run's way looks like while it goes -/
structure AW (K : PySem.W.Frag) (now tr dn dh : Addr) (fn : Str → Option V) (H0 H : Hp) (v : V) (p : Pts) (r : Str → Option Int) (e : DE Str) (evs : List (Ev Str)) : Prop where
  b : But (S4 now tr dn dh) H0 H
  nw : ∃ m, NW K H now tr (fset fn "made" (.int m)) evs
  d : Dp K H v (encP p)
  td : TD p
  rest : ∃ bn bh fh, DK H dn bn (fun y => (r y).map V.int) ∧ DK H dh bh fh ∧ bn + nst p ≤ 90 ∧ bh + nst p ≤ 90 ∧ HD K (msk (S4 now tr dn dh) H) e fh
structure Df (now tr dn dh : Addr) : Prop where
  h1 : now ≠ tr
  h2 : now ≠ dn
  h3 : now ≠ dh
  h4 : tr ≠ dn
  h5 : tr ≠ dh
  h6 : dn ≠ dh
section
variable {K : PySem.W.Frag} {now tr dn dh : Addr} {fn : Str → Option V} {H0 H H' : Hp} {v : V} {p : Pts} {r : Str → Option Int} {e : DE Str} {evs : List (Ev Str)}
theorem dk_mut {H : Hp} {d : Addr} {n : Nat} {f : Str → Option V} (h : DK H d n f) : Mut (H d) := by
  obtain ⟨kvs, q, _⟩ := h
  rw [q]; trivial
theorem NW.mono {fn : Str → Option V} (h : NW K H now tr fn evs) (q : Same H H') : NW K H' now tr fn evs :=
  ⟨h.dk.mono q, h.ft, h.fm, let ⟨acc, a, b⟩ := h.tl; ⟨acc, q _ _ a, dpa_mono q b⟩⟩
theorem AW.mutS (h : AW K now tr dn dh fn H0 H v p r e evs) : MutS (S4 now tr dn dh) H := fun b hb => by
  obtain ⟨m, nw⟩ := h.nw
  obtain ⟨bn, bh, fh, h1, h2, _⟩ := h.rest
  rcases hb with hb | hb | hb | hb
  · rw [hb]; exact dk_mut nw.dk
  · obtain ⟨acc, q, _⟩ := nw.tl
    rw [hb, q]; trivial
  · rw [hb]; exact dk_mut h1
  · rw [hb]; exact dk_mut h2
theorem AW.same (h : AW K now tr dn dh fn H0 H v p r e evs) (q : Same H H') : AW K now tr dn dh fn H0 H' v p r e evs := by
  obtain ⟨m, nw⟩ := h.nw
  obtain ⟨bn, bh, fh, h1, h2, h3, h4, h5⟩ := h.rest
  exact ⟨h.b.trans (But.of q), ⟨m, nw.mono q⟩, dp_mono q h.d, h.td, bn, bh, fh, h1.mono q, h2.mono q, h3, h4, h5.same (But.of q).msk⟩
theorem fset_fset {A : Type} {f : Str → Option A} {x : Str} {v w : A} (y : Str) : fset (fset f x v) x w y = fset f x w y := by
  by_cases e : y = x
  · rw [e, fset_same, fset_same]
  · rw [fset_ne e, fset_ne e, fset_ne e]
theorem notS_of {S : Addr → Prop} {H : Hp} {a : Addr} (m : MutS S H) (h : H a = none) : ¬ S a := fun s => by
  have z := m a s
  rw [h] at z; exact z
theorem msk_new {S : Addr → Prop} {H : Hp} {a : Addr} {xs : List V} (m : MutS S H) (h : H a = none) : SqT K (msk S (upd H a (.tup xs))) a xs := .inl (.inl (msk_of (notS_of m h) upd_same))
theorem mutS_same {S : Addr → Prop} {H H' : Hp} (m : MutS S H) (e : Same H H') : MutS S H' := fun b hb => by
  have z := m b hb
  cases q : H b with
  | none => rw [q] at z; exact z.elim
  | some o => rw [q] at z; rw [e _ _ q]; exact z
theorem NW.ext {fn fn' : Str → Option V} (h : NW K H now tr fn evs) (q : ∀ y, fn y = fn' y) : NW K H now tr fn' evs := ⟨h.dk.ext q, by rw [← q]; exact h.ft, by rw [← q]; exact h.fm, h.tl⟩
/-- not in: for the ends and the others -/
theorem inV_end : inV (.str "give") [V.str "give", V.str "ask"] = true ∧ inV (.str "ask") [V.str "give", V.str "ask"] = true ∧ inV (.str "post") [V.str "give", V.str "ask"] = false ∧ inV (.str "if") [V.str "give", V.str "ask"] = false ∧ inV (.str "tell") [V.str "give", V.str "ask"] = false ∧ inV (.str "let") [V.str "give", V.str "ask"] = false := by decide +kernel
def isEnd : Pts → Bool
  | .give _ _ => true
  | .ask _ _ _ => true
  | _ => false
theorem p_tag (h : Dp K H v (encP p)) : ∃ a tg rest, v = .ref a ∧ SqT K H a (.str tg :: rest) ∧ inV (.str tg) [V.str "give", V.str "ask"] = isEnd p := by
  cases p with
  | give j s =>
    obtain ⟨a, x, rfl, hS, hx⟩ := pp_give h
    exact ⟨a, _, _, rfl, hS, inV_end.1⟩
  | ask f ss j =>
    obtain ⟨a, t, xs, rfl, hS, ht, hx⟩ := pp_ask h
    exact ⟨a, _, _, rfl, hS, inV_end.2.1⟩
  | st tl x s U =>
    obtain ⟨a, y, z, rfl, hS, hy, hz⟩ := pp_st h
    exact ⟨a, _, _, rfl, hS, by cases tl; exact inV_end.2.2.2.2.2; exact inV_end.2.2.2.2.1⟩
  | ite s T U =>
    obtain ⟨a, x, y, z, rfl, hS, hx, hy, hz⟩ := pp_ite h
    exact ⟨a, _, _, rfl, hS, inV_end.2.2.2.1⟩
  | post j x T U =>
    obtain ⟨a, y, z, rfl, hS, hy, hz⟩ := pp_post h
    exact ⟨a, _, _, rfl, hS, inV_end.2.2.1⟩
end
section
variable {P : Program} {w : World} {K : PySem.W.Frag} {mg : Str → Option Value} {base : Heap} {ad : Nat → Addr} {fd : Nat → FuncData} {cL cT cN cB : Addr}
theorem ok_Lalong (T : Tx K mg ad fd cL cT cN cB) : FnOk P w K mg base CX0 3 (ad 41) (fd 41) ["now", "part", "names", "hands"] (spAlong K) := by
  have G_Lvalue := ok_Lvalue (P := P) (w := w) (base := base) T 2
  refine T.F_Lalong.ok sc_Lalong (fun vs H Q E h => ?_) (fun cdv A outer s H vs Q E hr h => ?_)
  · obtain ⟨now, tr, dn, dh, v, fn, evs, p, r, e, bn, bh, fh, es, g, rfl, _⟩ := h
    rfl
  obtain ⟨now, tr, dn, dh, v, fn, evs, p, r, e, bn, bh, fh, es, g, rfl, hN, hev, hv, htd, hdn, hdh, hbn, hbh, hHD, d1, d2, d3, d4, d5, d6, hal, q⟩ := h
  refine ⟨_, (pss_cons (ps_while PassesOwn.never (pt_cmpR op_notIn_seq (pe_ix ix_tup (pv 1) pe_int (fun _ _ => rfl)) (pe_tup (pa_cons pe_str (pa_cons pe_str pa_nil))) (by rfl))
    (pss_one (ps_if (pt_cmpR op_eq (pe_ix ix_tup (pv 1) pe_int (fun _ _ => rfl)) pe_str (nomark _)) (pss_cons (ps_dput (hu_of hr) (pv 0) pe_str (pe_op op_add (pe_dget (hu_of hr) (pv 0) pe_str (fun _ _ => rfl)) pe_int) rfl)
    (pss_cons (ps_dput (hu_of hr) (pv 3) (pe_ix ix_tup (pv 1) pe_int (fun _ _ => rfl)) (pe_tup (pa_cons (pe_op op_add (pe_ix ix_tup (pe_dget (hu_of hr) (pv 3) pe_str (fun _ _ => rfl)) pe_int (fun _ _ => rfl)) pe_int) (pa_cons (pe_ix ix_tup (pv 1) pe_int (fun _ _ => rfl)) (pa_cons (pe_ix ix_tup (pv 1) pe_int (fun _ _ => rfl)) (pa_cons (pe_callTy (T := "dict") call_dictOf (by rfl) T.z_dict (by decide +kernel) (pa_cons (pv 2) pa_nil)) (pa_cons (pe_callTy (T := "dict") call_dictOf (by rfl) T.z_dict (by decide +kernel) (pa_cons (pv 3) pa_nil)) pa_nil)))))) rfl)
    (pss_one (ps_set (i := 1) sc_Lalong.nd rfl (Or.inl rfl) (pe_ix ix_tup (pv 1) pe_int (fun _ _ => rfl)))))) (pss_one (ps_if (pt_cmpR op_eq (pe_ix ix_tup (pv 1) pe_int (fun _ _ => rfl)) pe_str (nomark _)) (pss_one (ps_set (i := 1) sc_Lalong.nd rfl (Or.inl rfl) (pe_ix ix_tup (pv 1) (pe_op op_add pe_int (pe_callTy (T := "int") call_int1 (by rfl) T.z_int (by decide +kernel) (pa_cons (pe_cmpR op_eq (pe_call G_Lvalue (hr.mono (by first | decide | omega)) (by rfl) T.m_Lvalue T.F_Lvalue.kp (b_Lvalue T) .nil pass0 (pa_cons (pe_ix ix_tup (pv 1) pe_int (fun _ _ => rfl)) (pa_cons (pv 2) pa_nil))) pe_int (nomark _)) pa_nil))) (fun _ _ => rfl)))) (pss_cons (ps_dput (hu_of hr) (pv 2) (pe_ix ix_tup (pv 1) pe_int (fun _ _ => rfl)) (pe_call G_Lvalue (hr.mono (by first | decide | omega)) (by rfl) T.m_Lvalue T.F_Lvalue.kp (b_Lvalue T) .nil pass0 (pa_cons (pe_ix ix_tup (pv 1) pe_int (fun _ _ => rfl)) (pa_cons (pv 2) pa_nil))) rfl)
    (pss_cons (ps_if (pt_cmpR op_eq (pe_ix ix_tup (pv 1) pe_int (fun _ _ => rfl)) pe_str (nomark _)) (pss_one (ps_expr (pe_bm PySem.F.plainAttrs_list PySem.F.slot_list_append PySem.F.type_list_append mt_append (pe_dget (hu_of hr) (pv 0) pe_str (fun _ _ => rfl)) (pa_cons (pe_tup (pa_cons pe_str (pa_cons (pe_dget (hu_of hr) (pv 2) (pe_ix ix_tup (pv 1) pe_int (fun _ _ => rfl)) (fun _ _ => rfl)) pa_nil))) pa_nil)))) pss_nil)
    (pss_one (ps_set (i := 1) sc_Lalong.nd rfl (Or.inl rfl) (pe_ix ix_tup (pv 1) pe_int (fun _ _ => rfl)))))))))))
    (pss_cons (ps_if (pt_cmpR op_eq (pe_ix ix_tup (pv 1) pe_int (fun _ _ => rfl)) pe_str (nomark _)) (pss_one (ps_ret (pe_tup (pa_cons pe_str (pa_cons (pe_call G_Lvalue (hr.mono (by first | decide | omega)) (by rfl) T.m_Lvalue T.F_Lvalue.kp (b_Lvalue T) .nil pass0 (pa_cons (pe_ix ix_tup (pv 1) pe_int (fun _ _ => rfl)) (pa_cons (pv 2) pa_nil))) (pa_cons (pe_dget (hu_of hr) (pv 3) (pe_ix ix_tup (pv 1) pe_int (fun _ _ => rfl)) (fun _ _ => rfl)) pa_nil)))))) pss_nil)
    (pss_one (ps_ret (pe_tup (pa_cons pe_str (pa_cons (pe_ix ix_tup (pv 1) pe_int (fun _ _ => rfl)) (pa_cons (pe_callTy (T := "tuple") call_tuple_of (by rfl) T.z_tuple (by decide +kernel) (pa_cons (pe_lc (own := [("one", 4)]) (by rfl) sc_Lalong.nd (pi_tup (pe_ix ix_tup (pv 1) pe_int (fun _ _ => rfl))) (blkOk_by (own := [("one", 4)]) (N := ["now", "part", "names", "hands", "one"]) (sc := defScope s_Lalong) (by decide +kernel)) (fun _ _ _ _ _ => (pg_name (i := 4) sc_Lalong.nd rfl (Or.inl rfl))) (fun _ _ _ _ _ => pts_nil) (fun _ _ _ _ _ => (pe_call G_Lvalue (hr.mono (by first | decide | omega)) (by rfl) T.m_Lvalue T.F_Lvalue.kp (b_Lvalue T) .nil pass0 (pa_cons (pv 4) (pa_cons (pv 2) pa_nil))))) pa_nil)) (pa_cons (pe_dget (hu_of hr) (pv 3) (pe_ix ix_tup (pv 1) pe_int (fun _ _ => rfl)) (fun _ _ => rfl)) pa_nil))))))))), ?_⟩
  have hA0 : AW K now tr dn dh fn H H v p r e evs := by
    obtain ⟨m, hm⟩ := hN.fm
    exact ⟨But.refl, ⟨m, hN.ext fun y => by
      by_cases ey : y = "made"
      · rw [ey, fset_same, hm]
      · rw [fset_ne ey]⟩, hv, htd, bn, bh, fh, hdn, hdh, hbn, hbh, hHD⟩
  refine st_seq ?_
  refine ⟨fun m σ H' => ∃ (v' : V) (p' : Pts) (r' : Str → Option Int) (e' : DE Str) (es1 es2 : List (Ev Str)), σ = [some (.ref now), some v', some (.ref dn), some (.ref dh), none] ∧ AW K now tr dn dh fn H H' v' p' r' e' (evs ++ es1) ∧ along ("home" : Str) p' r' e' = some (es2, g) ∧ es1 ++ es2 = es ∧ m = nst p', ⟨nst p, v, p, r, e, [], es, rfl, by rw [List.append_nil]; exact hA0, hal, rfl, rfl⟩, ?_⟩
  rintro m σ H1 ⟨v', p', r', e', es1, es2, rfl, hA, hal', hes, rfl⟩
  obtain ⟨a, tg, rest, ev, hS, htg⟩ := p_tag hA.d
  subst ev
  refine c_test (c_opL (c_val (v_ixT (val_var rfl) val_c hS (atI_nat (j := 0) rfl)) (c_tupV (va_cons val_c (va_cons val_c va_nil)) (by simp) fun pt hpt => ?_)))
  have ept := same_new (o := .tup [V.str "give", V.str "ask"]) hpt
  refine ⟨pt, _, rfl, .inr (SqT.of upd_same), rfl, rfl, !isEnd p', by rw [← htg]; rfl, ?_⟩
  have hA2 := hA.same ept
  have hS2 := same_tup ept hS
  clear hA hS hpt ept
  generalize upd H1 pt (.tup [V.str "give", V.str "ask"]) = H2 at *
  have hrest := hA2.rest
  obtain ⟨bn', bh', fh', k1, k2, k3, k4, k5⟩ := hrest
  cases p' with
  | give j s =>
    refine iteF ?_
    dsimp only
    obtain ⟨a', x, ea, hS3, hx⟩ := pp_give hA2.d
    cases ea
    simp only [along] at hal'
    cases hn : tev r' s with
    | none => rw [hn] at hal'; cases hal'
    | some n =>
    cases hf : dfind ("home" : Str) e' j with
    | none => rw [hn, hf] at hal'; cases hal'
    | some h =>
    rw [hn, hf] at hal'
    cases hal'
    rw [List.append_nil] at hes
    subst hes
    obtain ⟨ah, z1, z2⟩ := hd_find k5 hf
    refine st_seq (st_yes (a_eq (v_ixT (val_var rfl) val_c hS3 rfl) val_c rfl (by decide +kernel)) ?_)
    refine c_ret (c_tup' (c_cons (c_val val_c (c_cons (c_call (va_cons (v_ixT (val_var rfl) val_c hS3 rfl) (va_cons (val_var rfl) va_nil)) ⟨x, dn, bn', _, s, r', n, rfl, hx, k1, fun _ => rfl, hn, hA2.td, fun H3 e3 => c_cons (c_val (v_dget (val_var rfl) (v_ixT (val_var rfl) val_c (same_tup e3 hS3) rfl) (k2.mono e3) z1) (c_nil ⟨sz_of (by simp), fun pg hpg => ?_⟩))⟩)))))
    have e4 := same_new (o := .tup [.str "give", .int n, .ref ah]) hpg
    have hA4 := hA2.same (e3.trans e4)
    obtain ⟨m4, nw4⟩ := hA4.nw
    exact q _ _ m4 hA4.b nw4 ⟨pg, ah, rfl, msk_new (hA2.same e3).mutS hpg, z2.same (But.of (e3.trans e4)).msk⟩
  | ask f ss j =>
    refine iteF ?_
    dsimp only
    obtain ⟨a', t, xs, ea, hS3, hT3, hx⟩ := pp_ask hA2.d
    cases ea
    simp only [along] at hal'
    cases hn : tevs r' ss with
    | none => rw [hn] at hal'; cases hal'
    | some ns =>
    cases hf : dfind ("home" : Str) e' j with
    | none => rw [hn, hf] at hal'; cases hal'
    | some h =>
    rw [hn, hf] at hal'
    cases hal'
    rw [List.append_nil] at hes
    subst hes
    obtain ⟨ah, z1, z2⟩ := hd_find k5 hf
    obtain ⟨ln, hget⟩ := tevs_get hn
    have lxs : xs.length = ss.length := by rw [dpa_length hx, List.length_map]
    refine sq_no (a_eq (v_ixT (val_var rfl) val_c hS3 rfl) val_c rfl (by decide +kernel)) ?_
    refine c_ret (c_tup' (c_cons (c_val val_c (c_cons (c_val (v_ixT (val_var rfl) val_c hS3 rfl) (c_cons (c_cbL (c_cons ?_))))))))
    refine v_ixT (val_var rfl) val_c hS3 rfl _ ⟨t, rfl, ⟨_, hT3⟩, fun D hD => ?_⟩
    refine lc_mapT hD hT3 (ns.map .int) (by rw [List.length_map, ln, lxs]) (noL_ints ns) (by have := hA2.td.2; omega) (fun i x' d' H' R hxi hdi e3 rr => ?_) (fun H3 acc e3 hD3 hacc => ?_) (fun x σ H P R m h => m _ _ h)
    · have hi : i < ss.length := by
        rw [← lxs]
        exact (List.getElem?_eq_some_iff.mp hxi).1
      have hsi : ss[i]? = some ss[i] := List.getElem?_eq_getElem hi
      obtain ⟨x2, y1, y2⟩ := dpa_get hx (d := encT ss[i]) (i := i) (by rw [List.getElem?_map, hsi]; rfl)
      rw [hxi] at y1
      cases y1
      obtain ⟨n, n1, n2⟩ := hget i _ hsi
      rw [List.getElem?_map, n1] at hdi
      cases hdi
      exact ⟨rfl, c_call (va_cons (val_var rfl) (va_cons (val_var rfl) va_nil)) ⟨x', dn, bn', _, ss[i], r', n, rfl, dp_mono e3 y2, k1.mono e3, fun _ => rfl, n2, hA2.td.1 _ (List.getElem_mem hi), fun H4 e4 => rr _ _ e4 (.int n)⟩⟩
    · have hacc' : acc = ns.map .int := by
        have key : ∀ (l : List Int) (acc : List V), DpAll K H3 acc (l.map .int) → acc = l.map .int := by
          intro l
          induction l with
          | nil => intro acc h; exact dpa_nil h
          | cons a l ih =>
            intro acc h
            obtain ⟨x, r, rfl, h1, h2⟩ := dpa_cons h
            rw [dp_int h1, ih r h2]; rfl
        exact key ns acc hacc
      subst hacc'
      refine c_nil ⟨D, _, rfl, .inl ⟨SqL.of hD3, fun tp htp => ?_⟩⟩
      have e4 := same_new (o := .tup (ns.map V.int)) htp
      have e34 := e3.trans e4
      refine c_cons (c_val (v_dget (val_var rfl) (v_ixT (val_var rfl) val_c (same_tup e34 hS3) rfl) (k2.mono e34) z1) (c_nil ⟨sz_of (by simp), fun pg hpg => ?_⟩))
      have e5 := same_new (o := .tup [.str "ask", .str f, .ref tp, .ref ah]) hpg
      have hA5 := hA2.same (e34.trans e5)
      obtain ⟨m5, nw5⟩ := hA5.nw
      exact q _ _ m5 hA5.b nw5 ⟨pg, tp, ah, rfl, msk_new (hA2.same e34).mutS hpg, same_tup (But.of e5).msk (msk_new (hA2.same e3).mutS htp), z2.same (But.of (e34.trans e5)).msk⟩
  | st tl x s U =>
    refine iteT ?_
    refine ⟨_, fun _ _ n => n, ?_⟩
    obtain ⟨a', y, z, ea, hS3, hy, hz⟩ := pp_st hA2.d
    cases ea
    simp only [along] at hal'
    cases hn : tev r' s with
    | none => rw [hn] at hal'; cases hal'
    | some n =>
    rw [hn] at hal'
    simp only at hal'
    cases hr2 : along ("home" : Str) U (fset r' x n) e' with
    | none => rw [hr2] at hal'; cases hal'
    | some pr =>
    obtain ⟨es3, g3⟩ := pr
    rw [hr2] at hal'
    have hS3' := hS3
    simp only [nst] at k3 k4
    refine c_ifC (a_eq (v_ixT (val_var rfl) val_c hS3 rfl) val_c rfl kwS_post _ (iteF ?_))
    refine c_ifC (a_eq (v_ixT (val_var rfl) val_c hS3 rfl) val_c rfl (kwS_ne (by decide +kernel) (by decide +kernel)) _ (iteF ?_))
    refine sq_dputC (c_call (va_cons (v_ixT (val_var rfl) val_c hS3 rfl) (va_cons (val_var rfl) va_nil)) ⟨y, dn, bn', _, s, r', n, rfl, hy, k1, fun _ => rfl, hn, hA2.td.1, fun H3 e3 => c_val (val_var rfl) (c_val (v_ixT (val_var rfl) val_c (same_tup e3 hS3) rfl) (r_dput (k1.mono e3) (by omega) fun kvs hk => ?_))⟩)
    have hA3 := hA2.same e3
    have hk' := hk.ext fun y => fset_map y
    have b4 : But (S4 now tr dn dh) H3 (upd H3 dn (.dK kvs)) := But.mut (.inr (.inr (.inl rfl)))
    have hS4 := but_tup b4 hA3.mutS (same_tup e3 hS3)
    have hz4 := but_dp b4 hA3.mutS (noL_P _) (dp_mono e3 hz)
    obtain ⟨m3, nw3⟩ := hA3.nw
    obtain ⟨acc, ac1, ac2⟩ := nw3.tl
    have nw4 : NW K (upd H3 dn (.dK kvs)) now tr (fset fn "made" (.int m3)) (evs ++ es1) := ⟨nw3.dk.upd_ne' d2, nw3.ft, nw3.fm, acc, by rw [upd_ne d4]; exact ac1, but_dpa b4 hA3.mutS (noLs_Vs _) ac2⟩
    have hd4 := k5.same ((But.of (S := S4 now tr dn dh) e3).trans b4).msk
    have kh4 := (k2.mono e3).upd_ne' (o := .dK kvs) (Ne.symm d6)
    have bb4 := hA3.b.trans b4
    clear hk hA3 k1 k2 k5 nw3 ac1 ac2 hS3 hy hz
    generalize upd H3 dn (.dK kvs) = H4 at *
    cases tl with
    | false =>
      cases hal'
      refine st_seq (st_no (a_eq (v_ixT (val_var rfl) val_c hS4 rfl) val_c rfl (by decide +kernel)) ?_)
      refine c_set (c_val (v_ixT (val_var rfl) val_c hS4 rfl) ?_)
      refine ⟨nst U, by simp only [nst]; omega, z, U, fset r' x n, e', es1, _, rfl, ⟨bb4, ⟨m3, nw4⟩, hz4, hA2.td.2, bn' + 1, bh', fh', hk', kh4, by omega, by omega, hd4⟩, hr2, hes, rfl⟩
    | true =>
      cases hal'
      refine st_seq (st_yes (a_eq (v_ixT (val_var rfl) val_c hS4 rfl) val_c rfl (by decide +kernel)) ?_)
      obtain ⟨acc, ac1, ac2⟩ := nw4.tl
      refine c_drop (c_bm (v_dget (val_var rfl) val_c nw4.dk nw4.ft) ⟨_, SqL.of ac1⟩ (c_cons (c_tupV (va_cons val_c (va_cons (v_dget (val_var rfl) (v_ixT (val_var rfl) val_c hS4 rfl) hk' (by rw [fset_same]; rfl)) va_nil)) (by simp) fun pe hpe => c_nil ?_)))
      have e5 := same_new (o := .tup [V.str "tell", V.int n]) hpe
      have lac : acc.length ≤ 90000 := by
        rw [dpa_length ac2, List.length_map]
        rw [← hes] at hev
        simp only [List.length_append, List.length_cons] at hev ⊢
        omega
      refine ⟨tr, acc, _, rfl, rfl, e5 _ _ ac1, sz_lt (by omega), ?_⟩
      have m4 : MutS (S4 now tr dn dh) H4 := fun b hb => by
        rcases hb with hb | hb | hb | hb
        · rw [hb]; exact dk_mut nw4.dk
        · rw [hb, ac1]; trivial
        · rw [hb]; exact dk_mut hk'
        · rw [hb]; exact dk_mut kh4
      have m5 := mutS_same m4 e5
      have b6 : But (S4 now tr dn dh) (upd H4 pe (.tup [V.str "tell", V.int n])) (upd (upd H4 pe (.tup [V.str "tell", V.int n])) tr (.lst (acc ++ [.ref pe]))) := But.mut (.inr (.inl rfl))
      have b56 := (But.of (S := S4 now tr dn dh) e5).trans b6
      have hS6 := but_tup b56 m4 hS4
      refine c_set (c_val (v_ixT (val_var rfl) val_c hS6 rfl) ?_)
      refine ⟨nst U, by simp only [nst]; omega, z, U, fset r' x n, e', es1 ++ [.tell n], _, rfl, ⟨bb4.trans b56, ⟨m3, ?_⟩, but_dp b56 m4 (noL_P _) hz4, hA2.td.2, bn' + 1, bh', fh', ?_, ?_, by omega, by omega, hd4.same b56.msk⟩, hr2, by rw [← hes]; simp, rfl⟩
      · refine ⟨(nw4.dk.mono e5).upd_ne' d1, nw4.ft, nw4.fm, acc ++ [.ref pe], upd_same, ?_⟩
        rw [← List.append_assoc, List.map_append]
        exact dpa_snoc (but_dpa b56 m4 (noLs_Vs _) ac2) (but_dp b6 m5 (noL_V _) (.tup (SqT.of upd_same) (.cons (.str _) (.cons (.int _) .nil))))
      · exact (hk'.mono e5).upd_ne' (Ne.symm d4)
      · exact (kh4.mono e5).upd_ne' (Ne.symm d5)
  | ite s T1 U =>
    refine iteT ?_
    refine ⟨_, fun _ _ n => n, ?_⟩
    obtain ⟨a', y, z1, z2, ea, hS3, hy, hz1, hz2⟩ := pp_ite hA2.d
    cases ea
    simp only [along] at hal'
    cases hn : tev r' s with
    | none => rw [hn] at hal'; cases hal'
    | some n =>
    rw [hn] at hal'
    simp only at hal'
    simp only [nst] at k3 k4
    refine c_ifC (a_eq (v_ixT (val_var rfl) val_c hS3 rfl) val_c rfl (by decide +kernel) _ (iteF ?_))
    refine c_ifC (a_eq (v_ixT (val_var rfl) val_c hS3 rfl) val_c rfl (by decide +kernel) _ (iteT ?_))
    refine c_set (c_opL (c_val (val_var rfl) (c_opL (c_val val_c (c_cbL (c_cons (c_opL (c_call (va_cons (v_ixT (val_var rfl) val_c hS3 rfl) (va_cons (val_var rfl) va_nil)) ⟨y, dn, bn', _, s, r', n, rfl, hy, k1, fun _ => rfl, hn, hA2.td.1, fun H3 e3 => c_val val_c ⟨rfl, c_nil (.inr ⟨_, rfl, ⟨_, _, rfl, rfl, ?_⟩⟩)⟩⟩))))))))
    have hA3 := hA2.same e3
    obtain ⟨bn3, bh3, fh3, j1, j2, j3, j4, j5⟩ := hA3.rest
    by_cases h0 : n = 0
    · rw [if_pos h0] at hal'
      rw [decide_eq_true (by rw [h0])]
      refine ⟨_, _, 3, z2, rfl, rfl, same_tup e3 hS3, rfl, nst U, by simp only [nst]; omega, z2, U, r', e', es1, es2, rfl, ⟨hA3.b, hA3.nw, dp_mono e3 hz2, hA2.td.2.2, bn', bh', fh', k1.mono e3, k2.mono e3, by omega, by omega, k5.same (But.of e3).msk⟩, hal', hes, rfl⟩
    · rw [if_neg h0] at hal'
      rw [decide_eq_false (by intro z; injection z with z; exact h0 z)]
      refine ⟨_, _, 2, z1, rfl, rfl, same_tup e3 hS3, rfl, nst T1, by simp only [nst]; omega, z1, T1, r', e', es1, es2, rfl, ⟨hA3.b, hA3.nw, dp_mono e3 hz1, hA2.td.2.1, bn', bh', fh', k1.mono e3, k2.mono e3, by omega, by omega, k5.same (But.of e3).msk⟩, hal', hes, rfl⟩
  | post j x T1 U =>
    refine iteT ?_
    refine ⟨_, fun _ _ n => n, ?_⟩
    obtain ⟨a', y, z, ea, hS3, hy, hz⟩ := pp_post hA2.d
    cases ea
    simp only [along] at hal'
    by_cases hj : j = "home"
    · rw [if_pos hj] at hal'; cases hal'
    rw [if_neg hj] at hal'
    simp only [nst] at k3 k4
    refine c_ifC (a_eq (v_ixT (val_var rfl) val_c hS3 rfl) val_c rfl (by decide +kernel) _ (iteT ?_))
    obtain ⟨m2, nw2⟩ := hA2.nw
    refine sq_dputC (c_val (v_I0 (v_dget (val_var rfl) val_c nw2.dk fset_same) val_c) (c_val (val_var rfl) (c_val val_c (nw2.dk.put_old (by decide) fset_same fun kvs hk => ?_))))
    have b3 : But (S4 now tr dn dh) H2 (upd H2 now (.dK kvs)) := But.mut (.inl rfl)
    have hk' := hk.ext fun y => fset_fset y
    obtain ⟨acc, ac1, ac2⟩ := nw2.tl
    have nw3 : NW K (upd H2 now (.dK kvs)) now tr (fset fn "made" (.int (m2 + 1))) (evs ++ es1) := ⟨hk', by rw [fset_ne (by decide +kernel)]; have := nw2.ft; rw [fset_ne (by decide +kernel)] at this; exact this, ⟨_, fset_same⟩, acc, by rw [upd_ne (Ne.symm d1)]; exact ac1, but_dpa b3 hA2.mutS (noLs_Vs _) ac2⟩
    have hA3 : AW K now tr dn dh fn H (upd H2 now (.dK kvs)) (.ref a) (.post j x T1 U) r' e' (evs ++ es1) := ⟨hA2.b.trans b3, ⟨_, nw3⟩, but_dp b3 hA2.mutS (noL_P _) hA2.d, hA2.td, bn', bh', fh', k1.upd_ne' (Ne.symm d2), k2.upd_ne' (Ne.symm d3), k3, k4, k5.same b3.msk⟩
    have hS4 := but_tup b3 hA2.mutS hS3
    have hy4 := but_dp b3 hA2.mutS (noL_P _) hy
    have hz4 := but_dp b3 hA2.mutS (noL_P _) hz
    have k1' := k1.upd_ne' (o := .dK kvs) (Ne.symm d2)
    have k2' := k2.upd_ne' (o := .dK kvs) (Ne.symm d3)
    have k5' := k5.same b3.msk
    clear hk nw2 ac1 ac2 hA2 k1 k2 k5 hS3 hy hz
    generalize upd H2 now (.dK kvs) = H3 at *
    obtain ⟨ah, rest2, w1, w2⟩ := hd_home k5'
    have w3 := same_tup msk_same w2
    refine sq_dputC (c_tup' (c_cons (c_val (v_I0 (v_ixT (v_dget (val_var rfl) val_c k2' w1) val_c w3 (atI_nat (j := 0) rfl)) val_c) (c_cons (c_val (v_ixT (val_var rfl) val_c hS4 rfl) (c_cons (c_val (v_ixT (val_var rfl) val_c hS4 rfl) (c_cons ?_))))))))
    refine c_dictOf (val_var rfl) k1' fun p1 kv1 hp1 hk1 => c_cons ?_
    have e4 := same_new (o := .dK kv1) hp1
    refine c_dictOf (val_var rfl) (k2'.mono e4) fun p2 kv2 hp2 hk2 => c_nil ⟨sz_of (by simp), fun cl hcl => ?_⟩
    have e5 := same_new (o := .dK kv2) hp2
    have m3 := hA3.mutS
    have m4 := mutS_same m3 e4
    have m5 := mutS_same m4 e5
    have eh : V.int (((htE e' : Nat) : Int) + 1) = V.int ((htE e' + 1 : Nat) : Int) := by congr 1
    rw [eh]
    have e6 := same_new (o := .tup [V.int ((htE e' + 1 : Nat) : Int), V.str x, y, V.ref p1, V.ref p2]) hcl
    have e46 := e4.trans (e5.trans e6)
    have hclm := msk_new (K := K) (xs := [V.int ((htE e' + 1 : Nat) : Int), V.str x, y, V.ref p1, V.ref p2]) m5 hcl
    have h1m : DK (msk (S4 now tr dn dh) (upd H3 p1 (.dK kv1))) p1 bn' (fun y => (r' y).map V.int) := by
      obtain ⟨kvs', a1, a2, a3⟩ := hk1
      exact ⟨kvs', msk_of (notS_of m3 hp1) a1, a2, a3⟩
    have h2m : DK (msk (S4 now tr dn dh) (upd (upd H3 p1 (.dK kv1)) p2 (.dK kv2))) p2 bh' fh' := by
      obtain ⟨kvs', a1, a2, a3⟩ := hk2
      exact ⟨kvs', msk_of (notS_of m4 hp2) a1, a2, a3⟩
    have h1m' := h1m.mono (But.of (S := S4 now tr dn dh) (e5.trans e6)).msk
    have h2m' := h2m.mono (But.of (S := S4 now tr dn dh) e6).msk
    have hym := msk_dp (mutS_same m3 e46) (noL_P _) (dp_mono e46 hy4)
    refine c_val (val_var rfl) (c_val (v_ixT (val_var rfl) val_c (same_tup e46 hS4) rfl) (r_dput (k2'.mono e46) (by omega) fun kvs3 hk3 => ?_))
    have m6 := mutS_same m3 e46
    have hA6 := hA3.same e46
    have k16 := k1'.mono e46
    have k56 := k5'.same (But.of (S := S4 now tr dn dh) e46).msk
    have hS6 := same_tup e46 hS4
    have hz6 := dp_mono e46 hz4
    clear e4 e5 hcl h1m h2m hk1 hk2 hp2 hp1 m4 m5
    generalize upd (upd (upd H3 p1 (.dK kv1)) p2 (.dK kv2)) cl (.tup [V.int ((htE e' + 1 : Nat) : Int), V.str x, y, V.ref p1, V.ref p2]) = H6 at *
    have b7 : But (S4 now tr dn dh) H6 (upd H6 dh (.dK kvs3)) := But.mut (.inr (.inr (.inr rfl)))
    have hS7 := but_tup b7 m6 hS6
    refine c_set (c_val (v_ixT (val_var rfl) val_c hS7 rfl) ?_)
    obtain ⟨mm, nw6⟩ := hA6.nw
    obtain ⟨acc, ac1, ac2⟩ := nw6.tl
    refine ⟨nst U, by simp only [nst]; omega, z, U, r', .push j x T1 r' e', es1, es2, rfl, ⟨hA6.b.trans b7, ⟨mm, nw6.dk.upd_ne' d3, nw6.ft, nw6.fm, acc, by rw [upd_ne d5]; exact ac1, but_dpa b7 m6 (noLs_Vs _) ac2⟩, but_dp b7 m6 (noL_P _) hz6, hA3.td.2, bn', bh' + 1, _, k16.upd_ne' d6, hk3, by omega, by omega, ?_⟩, hal', hes, rfl⟩
    unfold HD
    exact ⟨cl, y, p1, p2, bn', bh', fh', fun _ => rfl, hj, same_tup b7.msk hclm, dp_mono b7.msk hym, hA3.td.1, h1m'.mono b7.msk, h2m'.mono b7.msk, by omega, by omega, k56.same b7.msk⟩
end
end Wn
end
section
set_option Elab.async false
set_option linter.all false
set_option maxRecDepth 100000
set_option maxHeartbeats 4000000
namespace Wn
open PySem PySem.Spec PyProof.Rows L2
/-- errands by their names: later ones win -/
def bkF {A : Type} (l : List (Str × List Str × A)) : Str → Option (List Str × A) := l.foldl (fun f e => fset f e.1 e.2) (fun _ => none)
theorem bkF_snoc {A : Type} (l : List (Str × List Str × A)) (e : Str × List Str × A) : bkF (l ++ [e]) = fset (bkF l) e.1 e.2 := by
  unfold bkF
  rw [List.foldl_append]; rfl
theorem bkF_mem {A : Type} : ∀ (n : Nat) (l : List (Str × List Str × A)), l.length = n → ∀ {f : Str} {q : List Str × A}, bkF l f = some q → (f, q) ∈ l
  | 0, l, hl, f, q, h => by
    rw [List.length_eq_zero_iff.mp hl] at h
    cases h
  | n + 1, l, hl, f, q, h => by
    have hne : l ≠ [] := fun z => by rw [z] at hl; cases hl
    have e := (List.dropLast_concat_getLast hne).symm
    rw [e] at h ⊢
    rw [bkF_snoc] at h
    by_cases ef : f = (l.getLast hne).1
    · rw [ef, fset_same] at h
      cases h
      rw [ef]
      exact List.mem_append_right _ List.mem_cons_self
    · rw [fset_ne ef] at h
      exact List.mem_append_left _ (bkF_mem n _ (by rw [List.length_dropLast]; omega) h)
/-- errands in the heap -/
def EF {A : Type} (K : PySem.W.Frag) (enc : A → PyData) (H : Hp) (g : Str → Option V) (F : Str → Option (List Str × A)) : Prop := ∀ f xs b, F f = some (xs, b) → ∃ a te z, g f = some (.ref a) ∧ SqT K H a [.ref te, z] ∧ SqT K H te (xs.map .str) ∧ Dp K H z (enc b)
theorem EF.same {A : Type} {K : PySem.W.Frag} {enc : A → PyData} {H H' : Hp} {g : Str → Option V} {F : Str → Option (List Str × A)} (e : Same H H') (h : EF K enc H g F) : EF K enc H' g F := fun f xs b q =>
  let ⟨a, te, z, h1, h2, h3, h4⟩ := h f xs b q
  ⟨a, te, z, h1, same_tup e h2, same_tup e h3, dp_mono e h4⟩
theorem GV.same {K : PySem.W.Frag} {H H' : Hp} {g : Gs Str} {v : V} (e : Same H H') (h : GV K H g v) : GV K H' g v := by
  cases g with
  | give n h0 => obtain ⟨a, ah, q1, q2, q3⟩ := h; exact ⟨a, ah, q1, same_tup e q2, q3.same e⟩
  | ask f ns h0 => obtain ⟨a, t, ah, q1, q2, q3, q4⟩ := h; exact ⟨a, t, ah, q1, same_tup e q2, same_tup e q3, q4.same e⟩
theorem msk_grow {S S' : Addr → Prop} {H H' : Hp} (e : But S H H') (g : ∀ b, S' b → S b ∨ H b = none) : Same (msk S H) (msk S' H') := fun b o hb => by
  obtain ⟨n, q⟩ := msk_get hb
  exact msk_of (fun s => (g b s).elim n fun z => by rw [z] at q; cases q) (e b o n q)
def encN : En → PyData
  | .done n => .tuple [.str "done", .int n]
  | .long => .tuple [.str "long"]
/-- a run's result in the heap -/
def RV (K : PySem.W.Frag) (H : Hp) (r : Res Str) (v : V) : Prop := ∃ (a tl : Addr) (x y : V) (acc : List V), v = .ref a ∧ SqT K H a [.ref tl, x, .int (r.dp : Nat), y] ∧ H tl = some (.lst acc) ∧ DpAll K H acc (r.tr.map encV) ∧ Dp K H x (encN r.en)
theorem RV.same {K : PySem.W.Frag} {H H' : Hp} {r : Res Str} {v : V} (e : Same H H') (h : RV K H r v) : RV K H' r v :=
  let ⟨a, tl, x, y, acc, h1, h2, h3, h4, h5⟩ := h
  ⟨a, tl, x, y, acc, h1, same_tup e h2, e _ _ h3, dpa_mono e h4, dp_mono e h5⟩
theorem bindF_snoc {x : Str} {n : Int} : ∀ {xs : List Str} {ns : List Int} {r : Str → Option Int}, xs.length = ns.length → bindF r (xs ++ [x]) (ns ++ [n]) = fset (bindF r xs ns) x n
  | [], [], r, _ => rfl
  | [], _ :: _, _, h => by simp at h
  | _ :: _, [], _, h => by simp at h
  | y :: xs, m :: ns, r, h => bindF_snoc (xs := xs) (ns := ns) (r := fset r y m) (by simpa using h)
theorem bind0_step {xs : List Str} {ns : List Int} {i : Nat} {x : Str} {n : Int} (hx : xs[i]? = some x) (hn : ns[i]? = some n) : bind0 (xs.take (i + 1)) (ns.take (i + 1)) = fset (bind0 (xs.take i) (ns.take i)) x n := by
  rw [take_snoc hx, take_snoc hn]
  refine bindF_snoc ?_
  have h1 := (List.getElem?_eq_some_iff.mp hx).1
  have h2 := (List.getElem?_eq_some_iff.mp hn).1
  rw [List.length_take, List.length_take]
  omega
def spTRun (K : PySem.W.Frag) : Sp := fun vs H Q _ => ∃ (v : V) (f : Str) (na : Addr) (most : Nat) (bk : List Er) (hd : Str → Option Nat) (ns : List Int) (r : Res Str), vs = [v, .str f, .ref na, .int most] ∧ Dp K H v (encBk bk) ∧ BkOk hd bk ∧ SqT K H na (ns.map .int) ∧ most ≤ 100 ∧ G1 ("home" : Str) (bkF bk) most (.ask f ns .fin) [] 0 0 r ∧
  ∀ v' H', Same H H' → RV K H' r v' → Q v' H'
abbrev S2 (now tl : Addr) : Addr → Prop := fun b => b = now ∨ b = tl
/-- the record, with how many and how deep -/
structure NR2 (K : PySem.W.Frag) (H : Hp) (now tl : Addr) (fn : Str → Option V) (evs : List (Ev Str)) (dp many : Nat) : Prop where
  nw : NW K H now tl fn evs
  hd : fn "deepest" = some (.int dp)
  hm : fn "many" = some (.int many)
/-- what stays while a turned run goes -/
structure LC (K : PySem.W.Frag) (H0 : Hp) (now tl ed : Addr) (ge : Str → Option V) (F : Str → Option (List Str × Pts)) (fn : Str → Option V) (evs : List (Ev Str)) (dp many : Nat) (H : Hp) : Prop where
  s : Same H0 H
  ed : DK (msk (S2 now tl) H) ed 10 ge
  ef : EF K encP (msk (S2 now tl) H) ge F
  nr : NR2 K H now tl fn evs dp many
section
variable {K : PySem.W.Frag} {H0 H H' : Hp} {now tl ed : Addr} {ge : Str → Option V} {F : Str → Option (List Str × Pts)} {fn : Str → Option V} {evs : List (Ev Str)} {dp many : Nat}
theorem NR2.mutS (h : NR2 K H now tl fn evs dp many) : MutS (S2 now tl) H := fun b hb => by
  rcases hb with hb | hb
  · rw [hb]; exact dk_mut h.nw.dk
  · obtain ⟨acc, z, _⟩ := h.nw.tl
    rw [hb, z]; trivial
theorem LC.same (h : LC K H0 now tl ed ge F fn evs dp many H) (e : Same H H') : LC K H0 now tl ed ge F fn evs dp many H' :=
  ⟨h.s.trans e, h.ed.mono (But.of e).msk, h.ef.same (But.of e).msk, h.nr.nw.mono e, h.nr.hd, h.nr.hm⟩
theorem LC.but (h : LC K H0 now tl ed ge F fn evs dp many H) {fn' : Str → Option V} {evs' : List (Ev Str)} {dp' many' : Nat} (e : But (S2 now tl) H H') (hn : H0 now = none) (ht : H0 tl = none) (nr : NR2 K H' now tl fn' evs' dp' many') : LC K H0 now tl ed ge F fn' evs' dp' many' H' :=
  ⟨same_drop e (fun b hb => hb.elim (fun z => by rw [z]; exact hn) fun z => by rw [z]; exact ht) h.s, h.ed.mono e.msk, h.ef.same e.msk, nr⟩
end
theorem now0 {tl : Addr} (y : Str) : valV (mergeK [] [((Sum.inr ("trail" : Str) : Key), V.ref tl), (Sum.inr ("deepest" : Str), V.int 0), (Sum.inr ("made" : Str), V.int 0), (Sum.inr ("many" : Str), V.int 0)]) (Sum.inr y) =
      if y = "many" then some (V.int 0) else if y = "made" then some (V.int 0) else if y = "deepest" then some (V.int 0) else if y = "trail" then some (V.ref tl) else none := by
    show valV (putK (putK (putK (putK ([] : List (Key × V)) (Sum.inr ("trail" : Str)) (V.ref tl)) (Sum.inr ("deepest" : Str)) (V.int 0)) (Sum.inr ("made" : Str)) (V.int 0)) (Sum.inr ("many" : Str)) (V.int 0)) (Sum.inr y) = _
    simp only [valV_put, Sum.inr.injEq, valV_nil]
theorem ne_now : ("trail" : Str) ≠ "many" ∧ ("trail" : Str) ≠ "made" ∧ ("trail" : Str) ≠ "deepest" ∧ ("deepest" : Str) ≠ "many" ∧ ("deepest" : Str) ≠ "made" ∧ ("made" : Str) ≠ "many" ∧ ("many" : Str) ≠ "made" ∧ ("many" : Str) ≠ "deepest" ∧ ("made" : Str) ≠ "deepest" := by decide +kernel
section
variable {P : Program} {w : World} {K : PySem.W.Frag} {mg : Str → Option Value} {base : Heap} {ad : Nat → Addr} {fd : Nat → FuncData} {cL cT cN cB : Addr}
theorem ok_Lturned_run (T : Tx K mg ad fd cL cT cN cB) : FnOk P w K mg base CX0 4 (ad 40) (fd 40) ["turned", "f", "numbers", "most"] (spTRun K) := by
  have G_Lalong := ok_Lalong (P := P) (w := w) (base := base) T
  refine T.F_Lturned_run.ok sc_Lturned_run (fun vs H Q E h => ?_) (fun cdv A outer s H vs Q E hr h => ?_)
  · obtain ⟨v, f, na, most, bk, hd, ns, r, rfl, _⟩ := h
    rfl
  obtain ⟨v, f, na, most, bk, hd, ns, r, rfl, hv, hbk, hna, hmost, ⟨m0, hrun⟩, q⟩ := h
  have hlen : r.tr.length ≤ 3300 := by
    have := run1_len (bk := bkF bk) (fun f xs b h => (hbk.all _ (bkF_mem _ _ rfl h)).cn) hrun (Nat.zero_le _)
    simp only [List.length_nil, gsH, phH] at this
    omega
  refine ⟨_, (pss_cons (ps_set (i := 4) sc_Lturned_run.nd rfl (Or.inl rfl) pe_dnewK)
    (pss_cons (ps_for PassesOwn.never rfl (pi_tup (pv 0)) (pg_tup (by rfl) (pgs_cons (pg_name (i := 5) sc_Lturned_run.nd rfl (Or.inl rfl)) (pgs_cons (pg_name (i := 6) sc_Lturned_run.nd rfl (Or.inl rfl)) (pgs_cons (pg_name (i := 7) sc_Lturned_run.nd rfl (Or.inl rfl)) pgs_nil))))
    (pss_one (ps_dput (hu_of hr) (pv 4) (pv 5) (pe_tup (pa_cons (pv 6) (pa_cons (pv 7) pa_nil))) rfl)))
    (pss_cons (ps_set (i := 8) sc_Lturned_run.nd rfl (Or.inl rfl) (pe_disp (pps_cons pe_str (pe_lst pa_nil) (pps_cons pe_str pe_int (pps_cons pe_str pe_int (pps_cons pe_str pe_int pps_nil)))) (by rfl) (by rfl) (fun z => by cases z) (by decide)))
    (pss_cons (ps_set (i := 9) sc_Lturned_run.nd rfl (Or.inl rfl) (pe_tup (pa_cons pe_str (pa_cons (pv 1) (pa_cons (pv 2) (pa_cons (pe_tup (pa_cons pe_int pa_nil)) pa_nil))))))
    (pss_one (ps_while PassesOwn.never (pt_val pe_bl)
    (pss_cons (ps_if (PW.pt (pw_and (pt_cmpR op_eq (pe_ix ix_tup (pv 9) pe_int (fun _ _ => rfl)) pe_str (nomark _)) (pw_and1 (pt_cmpR op_eq (pe_callB (id := "len") call_len_seq (by rfl) T.z_len (by decide +kernel) (pa_cons (pe_ix ix_tup (pv 9) pe_int (fun _ _ => rfl)) pa_nil)) pe_int (nomark _))))) (pss_one (ps_ret (pe_tup (pa_cons (pe_dget (hu_of hr) (pv 8) pe_str (fun _ _ => rfl)) (pa_cons (pe_tup (pa_cons pe_str (pa_cons (pe_ix ix_tup (pv 9) pe_int (fun _ _ => rfl)) pa_nil))) (pa_cons (pe_dget (hu_of hr) (pv 8) pe_str (fun _ _ => rfl)) (pa_cons (pe_dget (hu_of hr) (pv 8) pe_str (fun _ _ => rfl)) pa_nil))))))) pss_nil)
    (pss_cons (ps_if (PW.pt (pw_and (pt_cmpR op_eq (pe_ix ix_tup (pv 9) pe_int (fun _ _ => rfl)) pe_str (nomark _)) (pw_and1 (pt_cmpR op_eq (pe_dget (hu_of hr) (pv 8) pe_str (fun _ _ => rfl)) (pv 3) (nomark _))))) (pss_one (ps_ret (pe_tup (pa_cons (pe_dget (hu_of hr) (pv 8) pe_str (fun _ _ => rfl)) (pa_cons (pe_tup (pa_cons pe_str pa_nil)) (pa_cons (pe_dget (hu_of hr) (pv 8) pe_str (fun _ _ => rfl)) (pa_cons (pe_dget (hu_of hr) (pv 8) pe_str (fun _ _ => rfl)) pa_nil))))))) pss_nil)
    (pss_cons (ps_if (pt_cmpR op_eq (pe_ix ix_tup (pv 9) pe_int (fun _ _ => rfl)) pe_str (nomark _)) (pss_cons (ps_dput (hu_of hr) (pv 8) pe_str (pe_op op_add (pe_dget (hu_of hr) (pv 8) pe_str (fun _ _ => rfl)) pe_int) rfl)
    (pss_cons (ps_expr (pe_bm PySem.F.plainAttrs_list PySem.F.slot_list_append PySem.F.type_list_append mt_append (pe_dget (hu_of hr) (pv 8) pe_str (fun _ _ => rfl)) (pa_cons (pe_slice sl_tupA (pv 9) po_none (po_some pe_int)) pa_nil)))
    (pss_cons (ps_dput (hu_of hr) (pv 8) pe_str (pe_callB (id := "max") (call_max2 rfl) (by rfl) T.z_max (by decide +kernel) (pa_cons (pe_dget (hu_of hr) (pv 8) pe_str (fun _ _ => rfl)) (pa_cons (pe_ix ix_tup (pe_ix ix_tup (pv 9) pe_int (fun _ _ => rfl)) pe_int (fun _ _ => rfl)) pa_nil))) rfl)
    (pss_cons (ps_asg (pe_dget (hu_of hr) (pv 4) (pe_ix ix_tup (pv 9) pe_int (fun _ _ => rfl)) (fun _ _ => rfl)) (pg_tup (by rfl) (pgs_cons (pg_name (i := 10) sc_Lturned_run.nd rfl (Or.inl rfl)) (pgs_cons (pg_name (i := 7) sc_Lturned_run.nd rfl (Or.inl rfl)) pgs_nil))))
    (pss_cons (ps_set (i := 6) sc_Lturned_run.nd rfl (Or.inl rfl) pe_dnewK)
    (pss_cons (ps_for PassesOwn.never rfl (pi_range1 (by rfl) T.z_range (pa_cons (pe_callB (id := "len") call_len_seq (by rfl) T.z_len (by decide +kernel) (pa_cons (pv 10) pa_nil)) pa_nil)) (pg_name (i := 11) sc_Lturned_run.nd rfl (Or.inl rfl))
    (pss_one (ps_dput (hu_of hr) (pv 6) (pe_ix ix_tup (pv 10) (pv 11) (fun _ _ => rfl)) (pe_ix ix_tup (pe_ix ix_tup (pv 9) pe_int (fun _ _ => rfl)) (pv 11) (fun _ _ => rfl)) rfl)))
    (pss_one (ps_set (i := 12) sc_Lturned_run.nd rfl (Or.inl rfl) (pe_disp (pps_cons pe_str (pe_ix ix_tup (pv 9) pe_int (fun _ _ => rfl)) pps_nil) (by rfl) (by rfl) (fun z => by cases z) (by decide)))))))))) (pss_cons (ps_asg (pe_ix ix_tup (pv 9) pe_int (fun _ _ => rfl)) (pg_tup (by rfl) (pgs_cons (pg_name (i := 13) sc_Lturned_run.nd rfl (Or.inl rfl)) (pgs_cons (pg_name (i := 14) sc_Lturned_run.nd rfl (Or.inl rfl)) (pgs_cons (pg_name (i := 7) sc_Lturned_run.nd rfl (Or.inl rfl)) (pgs_cons (pg_name (i := 6) sc_Lturned_run.nd rfl (Or.inl rfl)) (pgs_cons (pg_name (i := 12) sc_Lturned_run.nd rfl (Or.inl rfl)) pgs_nil)))))))
    (pss_cons (ps_set (i := 6) sc_Lturned_run.nd rfl (Or.inl rfl) (pe_callTy (T := "dict") call_dictOf (by rfl) T.z_dict (by decide +kernel) (pa_cons (pv 6) pa_nil)))
    (pss_one (ps_dput (hu_of hr) (pv 6) (pv 14) (pe_ix ix_tup (pv 9) pe_int (fun _ _ => rfl)) rfl)))))
    (pss_one (ps_set (i := 9) sc_Lturned_run.nd rfl (Or.inl rfl) (pe_call G_Lalong (hr.mono (by first | decide | omega)) (by rfl) T.m_Lalong T.F_Lalong.kp (b_Lalong T) .nil pass0 (pa_cons (pv 8) (pa_cons (pv 7) (pa_cons (pv 6) (pa_cons (pe_callTy (T := "dict") call_dictOf (by rfl) T.z_dict (by decide +kernel) (pa_cons (pv 12) pa_nil)) pa_nil)))))))))))))))), ?_⟩
  obtain ⟨a, xs, rfl, hS, hx⟩ := dp_tup hv
  have lx : xs.length = bk.length := by rw [dpa_length hx, List.length_map]
  have hb6 := hbk.len
  refine sq_setC (fun ed hed => ?_)
  have e1 := same_new (o := .dK []) hed
  have hD0 : DK (upd H ed (.dK [])) ed 0 (fun _ => none) := DK.new
  generalize upd H ed (.dK []) = H1 at *
  refine st_seq ⟨_, rfl, a, rfl, ⟨xs, same_tup e1 hS⟩, for_tup (xs := xs) (fun i σ H' => ∃ (a5 a6 a7 : Option V) (ge : Str → Option V), σ = [some (.ref a), some (.str f), some (.ref na), some (.int most), some (.ref ed), a5, a6, a7, none, none, none, none, none, none, none] ∧ Same H H' ∧ DK H' ed i ge ∧ EF K encP H' ge (bkF (bk.take i))) ?_ ?_ ?_ ?_⟩
  · exact ⟨none, none, none, _, rfl, e1, hD0, fun f xs b h => by rw [List.take_zero] at h; cases h⟩
  · rintro i σ H' _ ⟨_, _, _, _, _, e, _⟩
    exact same_tup e hS
  · rintro i x σ H2 hxi ⟨a5, a6, a7, ge, rfl, e2, hD2, hE2⟩
    obtain ⟨e, z1, z2⟩ := er_get hx hxi
    have hi := (List.getElem?_eq_some_iff.mp hxi).1
    obtain ⟨ae, te, ze, rfl, hE, hN, hB⟩ := pp_er z2
    refine ⟨ae, _, rfl, same_tup e2 hE, rfl, _, _, rfl, _, _, rfl, _, _, rfl, rfl, ?_⟩
    refine en_dputC (c_tupV (va_cons (val_var rfl) (va_cons (val_var rfl) va_nil)) (by simp) fun p hp => ?_)
    have e3 := same_new (o := .tup [V.ref te, ze]) hp
    refine c_val (val_var rfl) (c_val (val_var rfl) (r_dput (hD2.mono e3) (by omega) fun kvs hk => ?_))
    have bm : But (fun b => b = ed) (upd H2 p (.tup [V.ref te, ze])) (upd (upd H2 p (.tup [V.ref te, ze])) ed (.dK kvs)) := But.mut rfl
    have mm : MutS (fun b => b = ed) (upd H2 p (.tup [V.ref te, ze])) := mutS1 (dk_mut (hD2.mono e3))
    have e4 := same_drop bm (fun b hb => by rw [hb]; exact hed) (e2.trans e3)
    refine ⟨_, _, _, _, rfl, e4, hk, fun g ys b h => ?_⟩
    rw [take_snoc z1, bkF_snoc] at h
    by_cases eg : g = e.1
    · rw [eg, fset_same] at h
      have h2 : e.2 = (ys, b) := Option.some.inj h
      refine ⟨p, te, ze, by rw [eg]; exact fset_same, but_tup bm mm (SqT.of upd_same), ?_, ?_⟩
      · rw [show ys = e.2.1 by rw [h2]]; exact same_tup e4 hN
      · rw [show b = e.2.2 by rw [h2]]; exact dp_mono e4 hB
    · rw [fset_ne eg] at h
      obtain ⟨a', te', z', h1, h2, h3, h4⟩ := hE2 g ys b h
      exact ⟨a', te', z', by rw [fset_ne eg]; exact h1, but_tup bm mm (same_tup e3 h2), but_tup bm mm (same_tup e3 h3), but_dp bm mm (noL_P _) (dp_mono e3 h4)⟩
  · rintro σ H2 ⟨a5, a6, a7, ge, rfl, e2, hD2, hE2⟩
    rw [lx] at hD2 hE2
    rw [List.take_length] at hE2
    dsimp only
    refine sq_setC (fun now hnow => c_val val_c (c_lstV va_nil (by simp) fun tl htl => c_val val_c (c_val val_c (c_val val_c (c_val val_c (c_val val_c (c_val val_c ⟨?_, [(Sum.inr ("trail" : Str), V.ref tl), (Sum.inr ("deepest" : Str), V.int 0), (Sum.inr ("made" : Str), V.int 0), (Sum.inr ("many" : Str), V.int 0)], rfl, by simp, ?_⟩)))))))
    · rw [upd_ne (fun z => by rw [← z, upd_same] at htl; cases htl), upd_same]
    have nnt : now ≠ tl := fun z => by rw [← z, upd_same] at htl; cases htl
    have e3 := same_new (o := .dK []) hnow
    have e4 := same_new (o := .lst []) htl
    have hnow2 : H2 now = none := hnow
    have htl2 : H2 tl = none := free_of (fun o ho => ⟨o, e3 _ _ ho⟩) htl
    have e5 : Same H2 (upd (upd (upd H2 now (.dK [])) tl (.lst [])) now (.dK (mergeK [] [((Sum.inr ("trail" : Str) : Key), V.ref tl), (Sum.inr ("deepest" : Str), V.int 0), (Sum.inr ("made" : Str), V.int 0), (Sum.inr ("many" : Str), V.int 0)]))) := same_drop (But.mut (S := fun b => b = now) rfl) (fun b hb => by rw [hb]; exact hnow) (e3.trans e4)
    obtain ⟨n1, n2, n3, n4, n5, n6, n7, n8, n9⟩ := ne_now
    have hN5 : NR2 K (upd (upd (upd H2 now (.dK [])) tl (.lst [])) now (.dK (mergeK [] [((Sum.inr ("trail" : Str) : Key), V.ref tl), (Sum.inr ("deepest" : Str), V.int 0), (Sum.inr ("made" : Str), V.int 0), (Sum.inr ("many" : Str), V.int 0)]))) now tl _ [] 0 0 :=
      ⟨⟨⟨_, upd_same, Nat.le_trans (length_mergeK _ _) (by simp), now0⟩, by rw [if_neg n1, if_neg n2, if_neg n3, if_pos rfl], ⟨0, by rw [if_neg n6, if_pos rfl]⟩, [], by rw [upd_ne (Ne.symm nnt), upd_same], .nil⟩, by rw [if_neg n4, if_neg n5, if_pos rfl]; rfl, by rw [if_pos rfl]; rfl⟩
    clear e3 e4 htl hnow
    generalize upd (upd (upd H2 now (.dK [])) tl (.lst [])) now (.dK (mergeK [] [((Sum.inr ("trail" : Str) : Key), V.ref tl), (Sum.inr ("deepest" : Str), V.int 0), (Sum.inr ("made" : Str), V.int 0), (Sum.inr ("many" : Str), V.int 0)])) = H5 at *
    have hG : ∀ b, S2 now tl b → H2 b = none := fun b hb => hb.elim (fun z => by rw [z]; exact hnow2) fun z => by rw [z]; exact htl2
    have e25 : Same H2 (msk (S2 now tl) H5) := fun b o hb => msk_of (fun z => by rw [hG b z] at hb; cases hb) (e5 b o hb)
    refine sq_setC (c_tup' (c_cons (c_val val_c (c_cons (c_val (val_var rfl) (c_cons (c_val (val_var rfl) (c_cons (c_tupV (va_cons val_c va_nil) (by simp) fun p0 hp0 => c_nil ⟨sz_of (by simp), fun pg hpg => ?_⟩)))))))))
    have e6 := same_new (o := .tup [V.int 0]) hp0
    have e7 := same_new (o := .tup [V.str "ask", V.str f, V.ref na, V.ref p0]) hpg
    have hN7 : NR2 K _ now tl _ [] 0 0 := ⟨hN5.nw.mono (e6.trans e7), hN5.hd, hN5.hm⟩
    have m5 : MutS (S2 now tl) H5 := fun b hb => by
      rcases hb with hb | hb
      · rw [hb]; exact dk_mut hN5.nw.dk
      · obtain ⟨acc, z, _⟩ := hN5.nw.tl
        rw [hb, z]; trivial
    have hgv : GV K (msk (S2 now tl) (upd (upd H5 p0 (.tup [V.int 0])) pg (.tup [V.str "ask", V.str f, V.ref na, V.ref p0]))) (.ask f ns .fin) (.ref pg) := by
      refine ⟨pg, na, p0, rfl, msk_new (mutS_same m5 e6) hpg, same_tup (e25.trans (But.of (e6.trans e7)).msk) (same_tup e2 hna), ?_⟩
      unfold HH
      exact same_tup (But.of e7).msk (msk_new m5 hp0)
    have e27 : Same H2 (msk (S2 now tl) (upd (upd H5 p0 (.tup [V.int 0])) pg (.tup [V.str "ask", V.str f, V.ref na, V.ref p0]))) := e25.trans (But.of (e6.trans e7)).msk
    have eH7 := e2.trans (e5.trans (e6.trans e7))
    have hnowH : H now = none := free_of (fun o ho => ⟨o, e2 _ _ ho⟩) hnow2
    have htlH : H tl = none := free_of (fun o ho => ⟨o, e2 _ _ ho⟩) htl2
    clear e6 e7 hpg hp0 hN5 m5
    generalize upd (upd H5 p0 (.tup [V.int 0])) pg (.tup [V.str "ask", V.str f, V.ref na, V.ref p0]) = H7 at *
    refine ⟨fun m σ H' => ∃ (g : Gs Str) (evs : List (Ev Str)) (dp many : Nat) (vg : V) (fn : Str → Option V) (b5 b6 b7 b10 b11 b12 b13 b14 : Option V), σ = [some (.ref a), some (.str f), some (.ref na), some (.int most), some (.ref ed), b5, b6, b7, some (.ref now), some vg, b10, b11, b12, b13, b14] ∧ Same H H' ∧ DK (msk (S2 now tl) H') ed 10 ge ∧ EF K encP (msk (S2 now tl) H') ge (bkF bk) ∧ NR2 K H' now tl fn evs dp many ∧ GV K (msk (S2 now tl) H') g vg ∧ Run1 ("home" : Str) (bkF bk) most m g evs dp many r,
      ⟨m0, _, _, _, _, _, _, _, _, _, _, _, _, _, _, rfl, eH7, (hD2.mono e27).up (by omega), hE2.same e27, hN7, hgv, hrun⟩, ?_⟩
    clear hN7 hgv e27 eH7 hD2 hE2 hrun e25 hG
    rintro m σ H8 ⟨g, evs, dp, many, vg, fn, b5, b6, b7, b10, b11, b12, b13, b14, rfl, e8, hD8, hE8, hN8, hG8, hrun⟩
    refine a_val (b := true) val_c _ (iteT ?_)
    refine ⟨_, fun _ _ n => n, ?_⟩
    have hC8 : LC K H now tl ed ge (bkF bk) fn evs dp many H8 := ⟨e8, hD8, hE8, hN8⟩
    have hgr := run1_grow hrun
    -- the way on
    have go : ∀ (H10 : Hp) (dn p2 : Addr) (vT : V) (T1 : Pts) (nm' : Str → Option Int) (e' : DE Str) (bn bh : Nat) (fh : Str → Option V) (m' : Nat) (g' : Gs Str) (es evs' : List (Ev Str)) (dp' many' : Nat) (fn' : Str → Option V) (R : VK),
        LC K H now tl ed ge (bkF bk) fn' evs' dp' many' H10 → Dp K H10 vT (encP T1) → TD T1 → DK H10 dn bn (fun y => (nm' y).map V.int) → DK H10 p2 bh fh → bn + nst T1 ≤ 90 → bh + nst T1 ≤ 90 → HD K (msk (S4 now tl dn p2) H10) e' fh → DK (msk (S4 now tl dn p2) H10) ed 10 ge → EF K encP (msk (S4 now tl dn p2) H10) ge (bkF bk) →
        H dn = none → H p2 = none → Df now tl dn p2 → along ("home" : Str) T1 nm' e' = some (es, g') → Run1 ("home" : Str) (bkF bk) most m' g' (evs' ++ es) dp' many' r →
        (∀ vg' H' fn'', LC K H now tl ed ge (bkF bk) fn'' (evs' ++ es) dp' many' H' → GV K (msk (S2 now tl) H') g' vg' → R vg' H') → (spAlong K) [.ref now, vT, .ref dn, .ref p2] H10 R E0 := by
      intro H10 dn p2 vT T1 nm' e' bn bh fh m' g' es evs' dp' many' fn' R hC hdT htd hdn hp2 hb1 hb2 hHD hed' hef' f1 f2 df hal hr' k
      have hg2 := run1_grow hr'
      rw [List.length_append] at hg2
      refine ⟨now, tl, dn, p2, vT, fn', evs', T1, nm', e', bn, bh, fh, es, g', rfl, hC.nr.nw, by omega, hdT, htd, hdn, hp2, hb1, hb2, hHD, df.h1, df.h2, df.h3, df.h4, df.h5, df.h6, hal, fun v' H' m2 b hnw hgv => ?_⟩
      have s42 : Same (msk (S4 now tl dn p2) H') (msk (S2 now tl) H') := fun b o hb => by
        obtain ⟨n, z⟩ := msk_get hb
        exact msk_of (fun s => n (s.elim .inl fun z => .inr (.inl z))) z
      refine k v' H' _ ⟨same_drop b (fun x hx => ?_) hC.s, (hed'.mono b.msk).mono s42, (hef'.same b.msk).same s42, hnw, by rw [fset_ne n5]; exact hC.nr.hd, by rw [fset_ne n7]; exact hC.nr.hm⟩ (hgv.same s42)
      rcases hx with hx | hx | hx | hx
      · rw [hx]; exact hnowH
      · rw [hx]; exact htlH
      · rw [hx]; exact f1
      · rw [hx]; exact f2
    have frH : ∀ {H9 : Hp} {b : Addr}, Same H H9 → H9 b = none → H b = none := fun e hb => free_of (fun o ho => ⟨o, e _ _ ho⟩) hb
    cases hrun with
    | @fin n0 _ _ _ =>
      obtain ⟨ag, ah, rfl, hS8, hh⟩ := hG8
      unfold HH at hh
      have hS9 := same_tup msk_same hS8
      have hh9 := same_tup msk_same hh
      obtain ⟨acc, ac1, ac2⟩ := hN8.nw.tl
      obtain ⟨mk, hmk⟩ := hN8.nw.fm
      refine st_seq (st_yes (a_and (b1 := true) (b2 := true) (a_eq (v_ixT (val_var rfl) val_c hS9 rfl) val_c rfl (by decide +kernel)) (fun _ => a_eq (v_len (v_ixT (val_var rfl) val_c hS9 rfl) (.inr hh9)) val_c rfl (by decide +kernel))) ?_)
      refine c_ret (c_tup' (c_cons (c_val (v_dget (val_var rfl) val_c hN8.nw.dk hN8.nw.ft) (c_cons (c_tupV (va_cons val_c (va_cons (v_ixT (val_var rfl) val_c hS9 rfl) va_nil)) (by simp) fun p1 hp1 => c_cons ?_)))))
      have e9 := same_new (o := .tup [V.str "done", V.int n0]) hp1
      refine c_val (v_dget (val_var rfl) val_c (hN8.nw.dk.mono e9) hN8.hd) (c_cons (c_val (v_dget (val_var rfl) val_c (hN8.nw.dk.mono e9) hmk) (c_nil ⟨sz_of (by simp), fun p2 hp2 => ?_⟩)))
      have e10 := same_new (o := .tup [V.ref tl, V.ref p1, V.int dp, V.int mk]) hp2
      exact q _ _ (e8.trans (e9.trans e10)) ⟨p2, tl, _, _, acc, rfl, SqT.of upd_same, (e9.trans e10) _ _ ac1, dpa_mono (e9.trans e10) ac2, dp_mono e10 (.tup (SqT.of upd_same) (.cons (.str _) (.cons (.int _) .nil)))⟩
    | long hmm =>
      obtain ⟨ag, ta, ah, rfl, hS8, hta, hh⟩ := hG8
      have hS9 := same_tup msk_same hS8
      obtain ⟨acc, ac1, ac2⟩ := hN8.nw.tl
      obtain ⟨mk, hmk⟩ := hN8.nw.fm
      refine sq_no (a_and (b1 := false) (b2 := false) (a_eq (v_ixT (val_var rfl) val_c hS9 rfl) val_c rfl (by decide +kernel)) (fun z => by cases z)) ?_
      refine st_seq (st_yes (a_and (b1 := true) (b2 := true) (a_eq (v_ixT (val_var rfl) val_c hS9 rfl) val_c rfl (by decide +kernel)) (fun _ => a_eq (v_dget (val_var rfl) val_c hN8.nw.dk hN8.hm) (val_var rfl) rfl (by rw [hmm, decide_eq_true rfl]))) ?_)
      refine c_ret (c_tup' (c_cons (c_val (v_dget (val_var rfl) val_c hN8.nw.dk hN8.nw.ft) (c_cons (c_tupV (va_cons val_c va_nil) (by simp) fun p1 hp1 => c_cons ?_)))))
      have e9 := same_new (o := .tup [V.str "long"]) hp1
      refine c_val (v_dget (val_var rfl) val_c (hN8.nw.dk.mono e9) hN8.hd) (c_cons (c_val (v_dget (val_var rfl) val_c (hN8.nw.dk.mono e9) hmk) (c_nil ⟨sz_of (by simp), fun p2 hp2 => ?_⟩)))
      have e10 := same_new (o := .tup [V.ref tl, V.ref p1, V.int dp, V.int mk]) hp2
      exact q _ _ (e8.trans (e9.trans e10)) ⟨p2, tl, _, _, acc, rfl, SqT.of upd_same, (e9.trans e10) _ _ ac1, dpa_mono (e9.trans e10) ac2, dp_mono e10 (.tup (SqT.of upd_same) (.cons (.str _) .nil))⟩
    | @give m' n x T1 nm e es g' _ _ _ _ hal hr' =>
      obtain ⟨ag, ah, rfl, hS8, hh⟩ := hG8
      unfold HH at hh
      obtain ⟨vT, dn0, dh0, bn, bh, fh, q1, q2, q3, q4, q5, q6, q7, q8⟩ := hh
      have hS9 := same_tup msk_same hS8
      have hh9 := same_tup msk_same q1
      refine sq_no (a_and (b1 := true) (b2 := false) (a_eq (v_ixT (val_var rfl) val_c hS9 rfl) val_c rfl (by decide +kernel)) (fun _ => a_eq (v_len (v_ixT (val_var rfl) val_c hS9 rfl) (.inr hh9)) val_c rfl (decide_eq_false (by intro z; injection z with z; simp at z)))) ?_
      refine sq_no (a_and (b1 := false) (b2 := false) (a_eq (v_ixT (val_var rfl) val_c hS9 rfl) val_c rfl (by decide +kernel)) (fun z => by cases z)) ?_
      refine sq_ifC (a_eq (v_ixT (val_var rfl) val_c hS9 rfl) val_c rfl (by decide +kernel) _ (iteF ?_))
      refine sq_tup (v_ixT (val_var rfl) val_c hS9 rfl) hh9 rfl ⟨_, _, rfl, _, _, rfl, _, _, rfl, _, _, rfl, _, _, rfl, rfl, ?_⟩
      refine sq_setC (c_dictOf (val_var rfl) (q4.mono msk_same) fun p1 kv1 hp1 hk1 => ?_)
      have e9 := same_new (o := .dK kv1) hp1
      refine en_dputC (c_val (v_ixT (val_var rfl) val_c (same_tup e9 hS9) rfl) (c_val (val_var rfl) (c_val (val_var rfl) (r_dput hk1 (by omega) fun kvs hk2 => ?_))))
      rw [upd_upd] at hk2 ⊢
      have e9' := same_new (o := .dK kvs) hp1
      refine c_set (c_callL (c_cons (c_val (val_var rfl) (c_cons (c_val (val_var rfl) (c_cons (c_val (val_var rfl) (c_cons (c_dictOf (val_var rfl) ((q5.mono msk_same).mono e9') fun p2 kv2 hp2 hk3 => c_nil ?_)))))))))
      have e10 := same_new (o := .dK kv2) hp2
      have e910 := e9'.trans e10
      have gr : Same (msk (S2 now tl) H8) (msk (S4 now tl p1 p2) (upd (upd H8 p1 (.dK kvs)) p2 (.dK kv2))) := msk_grow (But.of e910) fun b hb => by
        rcases hb with hb | hb | hb | hb
        · exact .inl (.inl hb)
        · exact .inl (.inr hb)
        · exact .inr (by rw [hb]; exact hp1)
        · exact .inr (by rw [hb]; exact free_of (fun o ho => ⟨o, e9' _ _ ho⟩) hp2)
      have n12 : p1 ≠ p2 := fun z => by rw [← z, upd_same] at hp2; cases hp2
      have ap : ∀ b, S2 now tl b → H8 b ≠ none := fun b hb z => by
        have := hN8.mutS b hb
        rw [z] at this; exact this
      refine go _ p1 p2 vT T1 (fset nm x n) e (bn + 1) bh fh m' g' es evs dp many fn _ (hC8.same e910) (dp_mono e910 (dp_mono msk_same q2)) q3 ((hk2.mono e10).ext fun y => fset_map y) hk3 (by omega) q7 (q8.same gr) (hC8.ed.mono gr) (hC8.ef.same gr) (frH e8 hp1) (frH (e8.trans e9') hp2)
        ⟨nnt, fun z => ap now (.inl rfl) (by rw [z]; exact hp1), fun z => (by rw [← z] at hp2; exact ap now (.inl rfl) (free_of (fun o ho => ⟨o, e9' _ _ ho⟩) hp2)), fun z => ap tl (.inr rfl) (by rw [z]; exact hp1), fun z => (by rw [← z] at hp2; exact ap tl (.inr rfl) (free_of (fun o ho => ⟨o, e9' _ _ ho⟩) hp2)), n12⟩ hal hr' (fun vg' H' fn'' hC' hG' => ?_)
      exact ⟨m', Nat.lt_succ_self _, g', _, _, _, vg', fn'', _, _, _, _, _, _, _, _, rfl, hC'.s, hC'.ed, hC'.ef, hC'.nr, hG', hr'⟩
    | @ask m' f2 ns2 h _ _ _ _ xs2 body es g' hne hbk2 hl2 hal hr' =>
      obtain ⟨ag, ta, ah, rfl, hS8, hta, hh⟩ := hG8
      have hS9 := same_tup msk_same hS8
      refine sq_no (a_and (b1 := false) (b2 := false) (a_eq (v_ixT (val_var rfl) val_c hS9 rfl) val_c rfl (by decide +kernel)) (fun z => by cases z)) ?_
      refine sq_no (a_and (b1 := true) (b2 := false) (a_eq (v_ixT (val_var rfl) val_c hS9 rfl) val_c rfl (by decide +kernel)) (fun _ => a_eq (v_dget (val_var rfl) val_c hN8.nw.dk hN8.hm) (val_var rfl) rfl (decide_eq_false (by intro z; injection z with z; omega)))) ?_
      refine sq_ifC (a_eq (v_ixT (val_var rfl) val_c hS9 rfl) val_c rfl (by decide +kernel) _ (iteT ?_))
      -- one more
      refine sq_dputC (c_val (v_I0 (v_dget (val_var rfl) val_c hN8.nw.dk hN8.hm) val_c) (c_val (val_var rfl) (c_val val_c (hN8.nw.dk.put_old (by decide) hN8.hm fun kvs hk => ?_))))
      have b9 : But (S2 now tl) H8 (upd H8 now (.dK kvs)) := But.mut (.inl rfl)
      obtain ⟨acc, ac1, ac2⟩ := hN8.nw.tl
      obtain ⟨mk, hmk⟩ := hN8.nw.fm
      have hN9 : NR2 K (upd H8 now (.dK kvs)) now tl (fset fn "many" (.int (many + 1 : Nat))) evs dp (many + 1) := ⟨⟨hk, by rw [fset_ne n1]; exact hN8.nw.ft, ⟨mk, by rw [fset_ne n6]; exact hmk⟩, acc, by rw [upd_ne (Ne.symm nnt)]; exact ac1, but_dpa b9 hN8.mutS (noLs_Vs _) ac2⟩, by rw [fset_ne n4]; exact hN8.hd, fset_same⟩
      have hC9 := hC8.but b9 hnowH htlH hN9
      have hS10 := same_tup b9.msk hS8
      have hta10 := same_tup b9.msk hta
      have hh10 := hh.same b9.msk
      clear hk ac1 ac2 b9 hS9
      generalize upd H8 now (.dK kvs) = H9 at *
      -- the trail
      obtain ⟨acc, ac1, ac2⟩ := hN9.nw.tl
      refine sq_dropC (c_bm (v_dget (val_var rfl) val_c hN9.nw.dk hN9.nw.ft) ⟨_, SqL.of ac1⟩ (c_cons ?_))
      refine c_slA (val_var rfl) (same_tup msk_same hS10) to_none (to_some val_c) (ys := [.str "ask", .str f2, .ref ta]) rfl fun pa H10 e10 hpa => c_nil ?_
      have lac : acc.length ≤ 90000 := by
        rw [dpa_length ac2, List.length_map]; omega
      refine ⟨tl, acc, _, rfl, rfl, e10 _ _ ac1, sz_lt (by omega), ?_⟩
      have hC10 := hC9.same e10
      have m10 := hC10.nr.mutS
      have b11 : But (S2 now tl) H10 (upd H10 tl (.lst (acc ++ [.ref pa]))) := But.mut (.inr rfl)
      have dpv : Dp K H10 (.ref pa) (encV (.ask f2 ns2)) := .tup hpa (.cons (.str _) (.cons (.str _) (.cons (.tup (same_tup e10 (same_tup msk_same hta10)) dpa_of_ints) .nil)))
      have hN11 : NR2 K (upd H10 tl (.lst (acc ++ [.ref pa]))) now tl (fset fn "many" (.int (many + 1 : Nat))) (evs ++ [.ask f2 ns2]) dp (many + 1) := ⟨⟨hC10.nr.nw.dk.upd_ne' nnt, hC10.nr.nw.ft, hC10.nr.nw.fm, _, upd_same, by
        rw [List.map_append]
        exact dpa_snoc (but_dpa b11 m10 (noLs_Vs _) (dpa_mono e10 ac2)) (but_dp b11 m10 (noL_V _) dpv)⟩, hC10.nr.hd, hC10.nr.hm⟩
      have hC11 := hC10.but b11 hnowH htlH hN11
      have gr1 : Same (msk (S2 now tl) H9) (msk (S2 now tl) (upd H10 tl (.lst (acc ++ [.ref pa])))) := ((But.of e10).trans b11).msk
      have hS12 := same_tup gr1 hS10
      have hta12 := same_tup gr1 hta10
      have hh12 := hh10.same gr1
      clear gr1 dpv hpa e10 b11 m10 ac1 ac2 hC10 hS10 hta10 hh10 hC9 hN9
      generalize upd H10 tl (.lst (acc ++ [.ref pa])) = H12 at *
      -- the deepest
      obtain ⟨hrest, hht⟩ := hh_ht hh12
      refine sq_dputC (c_cb (va_cons (v_dget (val_var rfl) val_c hN11.nw.dk hN11.hd) (va_cons (v_ixT (v_ixT (val_var rfl) val_c (same_tup msk_same hS12) rfl) val_c (same_tup msk_same hht) (atI_nat (j := 0) rfl)) va_nil)) ⟨_, _, rfl, c_val (val_var rfl) (c_val val_c (hN11.nw.dk.put_old (by decide) hN11.hd fun kvs hk => ?_))⟩)
      have emax : (if ((htH h : Nat) : Int) > (dp : Int) then ((htH h : Nat) : Int) else (dp : Int)) = ((max dp (htH h) : Nat) : Int) := by
        by_cases hgt : ((htH h : Nat) : Int) > (dp : Int)
        · rw [if_pos hgt]; omega
        · rw [if_neg hgt]; omega
      rw [emax] at hk
      have b13 : But (S2 now tl) H12 (upd H12 now (.dK kvs)) := But.mut (.inl rfl)
      obtain ⟨acc2, ac1, ac2⟩ := hN11.nw.tl
      obtain ⟨mk2, hmk2⟩ := hN11.nw.fm
      have hN13 : NR2 K (upd H12 now (.dK kvs)) now tl (fset (fset fn "many" (.int (many + 1 : Nat))) "deepest" (.int (max dp (htH h) : Nat))) (evs ++ [.ask f2 ns2]) (max dp (htH h)) (many + 1) := ⟨⟨hk, by rw [fset_ne n3]; exact hN11.nw.ft, ⟨mk2, by rw [fset_ne n9]; exact hmk2⟩, acc2, by rw [upd_ne (Ne.symm nnt)]; exact ac1, but_dpa b13 hN11.mutS (noLs_Vs _) ac2⟩, fset_same, by rw [fset_ne n8]; exact hN11.hm⟩
      have hC13 := hC11.but b13 hnowH htlH hN13
      have hS14 := same_tup b13.msk hS12
      have hta14 := same_tup b13.msk hta12
      have hh14 := hh12.same b13.msk
      clear hk ac1 ac2 b13 hS12 hta12 hh12 hht hC11 hN11
      generalize upd H12 now (.dK kvs) = H14 at *
      -- the errand
      obtain ⟨ae, te, ze, z1, z2, z3, z4⟩ := hC13.ef f2 xs2 body hbk2
      have hEk := hbk.all _ (bkF_mem _ _ rfl hbk2)
      have hS15 := same_tup msk_same hS14
      refine sq_tup (v_dget (val_var rfl) (v_ixT (val_var rfl) val_c hS15 rfl) (hC13.ed.mono msk_same) z1) (same_tup msk_same z2) rfl ⟨_, _, rfl, _, _, rfl, rfl, ?_⟩
      refine sq_setC (fun dn hdn => ?_)
      have hx4 : xs2.length ≤ 4 := (hbk.dom _ _ hEk.ar).1
      have lx2 : (xs2.map V.str).length = xs2.length := List.length_map _
      have e15 := same_new (o := .dK []) hdn
      have hdn0 : DK (upd H14 dn (.dK [])) dn 0 (fun y => ((bind0 ([] : List Str) []) y).map V.int) := DK.new
      generalize upd H14 dn (.dK []) = H15 at *
      refine sq_forR (n := xs2.length) (v_is (v_len (val_var rfl) (.inr (same_tup e15 (same_tup msk_same z3)))) (by rw [lx2])) (by omega) (fun i σ H' => ∃ (b11 : Option V), σ = [some (.ref a), some (.str f), some (.ref na), some (.int most), some (.ref ed), b5, some (.ref dn), some ze, some (.ref now), some (.ref ag), some (.ref te), b11, b12, b13, b14] ∧ Same H14 H' ∧ DK H' dn i (fun y => (bind0 (xs2.take i) (ns2.take i) y).map V.int)) ?_ ?_ ?_
      · exact ⟨_, rfl, e15, by rw [List.take_zero, List.take_zero]; exact hdn0⟩
      · rintro i σ H16 hi ⟨b11, rfl, e16, hd16⟩
        have hxi : xs2[i]? = some xs2[i] := List.getElem?_eq_getElem hi
        obtain ⟨nv, hni⟩ : ∃ nv, ns2[i]? = some nv := ⟨_, List.getElem?_eq_getElem (by omega)⟩
        refine en_dputC (c_val (v_ixT (v_ixT (val_var rfl) val_c (same_tup e16 hS15) rfl) (val_var rfl) (same_tup e16 (same_tup msk_same hta14)) (atI_nat (v := .int nv) (by rw [List.getElem?_map, hni]; exact rfl))) (c_val (val_var rfl) (c_val (v_ixT (val_var rfl) (val_var rfl) (same_tup e16 (same_tup msk_same z3)) (atI_nat (v := .str xs2[i]) (by rw [List.getElem?_map, hxi]; rfl))) (r_dput hd16 (by omega) fun kvs hk => ?_))))
        refine ⟨_, rfl, same_drop (But.mut (S := fun b => b = dn) rfl) (fun b hb => by rw [hb]; exact hdn) e16, ?_⟩
        rw [bind0_step hxi hni]
        exact hk.ext fun y => fset_map y
      · rintro σ H16 ⟨b11, rfl, e16, hd16⟩
        rw [List.take_length] at hd16
        have hns : ns2.take xs2.length = ns2 := by rw [hl2, List.take_length]
        rw [hns] at hd16
        refine c_set (fun p3 hp3 => c_val val_c (c_val (v_ixT (val_var rfl) val_c (same_tup (e16.trans (same_new (o := .dK []) hp3)) hS15) rfl) ⟨upd_same, [(Sum.inr ("home" : Str), V.ref ah)], rfl, by simp, ?_⟩))
        rw [upd_upd]
        have e17 := same_new (o := .dK (mergeK [] [((Sum.inr ("home" : Str) : Key), V.ref ah)])) hp3
        have hh17 : DK (upd H16 p3 (.dK (mergeK [] [((Sum.inr ("home" : Str) : Key), V.ref ah)]))) p3 1 (fun k => if k = ("home" : Str) then some (V.ref ah) else none) := ⟨_, upd_same, length_mergeK _ _, fun k => by
          show valV (putK [] (Sum.inr ("home" : Str)) (V.ref ah)) (Sum.inr k) = _
          rw [valV_put]
          by_cases e : k = ("home" : Str)
          · rw [if_pos (by rw [e])]; exact (if_pos e).symm
          · rw [if_neg (fun z => e (Sum.inr.inj z))]; exact (if_neg e).symm⟩
        generalize upd H16 p3 (.dK (mergeK [] [((Sum.inr ("home" : Str) : Key), V.ref ah)])) = H17 at *
        refine c_set (c_callL (c_cons (c_val (val_var rfl) (c_cons (c_val (val_var rfl) (c_cons (c_val (val_var rfl) (c_cons (c_dictOf (val_var rfl) hh17 fun p2 kv2 hp2 hk3 => c_nil ?_)))))))))
        have e18 := same_new (o := .dK kv2) hp2
        have e1418 := e16.trans (e17.trans e18)
        have hp2H14 : H14 p2 = none := free_of (fun o ho => ⟨o, (e16.trans e17) _ _ ho⟩) hp2
        have hd17 : DK (upd H17 p2 (.dK kv2)) dn xs2.length (fun y => (bind0 xs2 ns2 y).map V.int) := hd16.mono (e17.trans e18)
        have gr : Same (msk (S2 now tl) H14) (msk (S4 now tl dn p2) (upd H17 p2 (.dK kv2))) := msk_grow (But.of e1418) fun b hb => by
          rcases hb with hb | hb | hb | hb
          · exact .inl (.inl hb)
          · exact .inl (.inr hb)
          · exact .inr (by rw [hb]; exact hdn)
          · exact .inr (by rw [hb]; exact hp2H14)
        have n12 : dn ≠ p2 := fun z => by
          obtain ⟨kvs', w1, _⟩ := hd16
          rw [← z, e17 _ _ w1] at hp2; cases hp2
        have ap : ∀ b, S2 now tl b → H14 b ≠ none := fun b hb z => by
          have := hC13.nr.mutS b hb
          rw [z] at this; exact this
        have hHD : HD K (msk (S4 now tl dn p2) (upd H17 p2 (.dK kv2))) (.home h) (fun k => if k = ("home" : Str) then some (V.ref ah) else none) := by
          unfold HD
          exact ⟨ah, fun _ => rfl, hh14.same gr⟩
        have hnb : nst body ≤ 31 := Nat.le_trans (nst_cnt body) hEk.cn
        refine go _ dn p2 ze body (bind0 xs2 ns2) (.home h) xs2.length 1 _ m' g' es (evs ++ [.ask f2 ns2]) (max dp (htH h)) (many + 1) _ _ (hC13.same e1418) (dp_mono e1418 (dp_mono msk_same z4)) (td_of (fun f n hf => by have := (hbk.dom f n hf).1; omega) hEk.wf) hd17 hk3 (by omega) (by omega) hHD (hC13.ed.mono gr) (hC13.ef.same gr) (frH hC13.s hdn) (frH hC13.s hp2H14)
          ⟨nnt, fun z => ap now (.inl rfl) (by rw [z]; exact hdn), fun z => ap now (.inl rfl) (by rw [z]; exact hp2H14), fun z => ap tl (.inr rfl) (by rw [z]; exact hdn), fun z => ap tl (.inr rfl) (by rw [z]; exact hp2H14), n12⟩ hal hr' (fun vg' H' fn'' hC' hG' => ?_)
        exact ⟨m', Nat.lt_succ_self _, g', _, _, _, vg', fn'', _, _, _, _, _, _, _, _, rfl, hC'.s, hC'.ed, hC'.ef, hC'.nr, hG', hr'⟩
end
end Wn
end
section
set_option Elab.async false
set_option linter.all false
set_option maxRecDepth 100000
set_option maxHeartbeats 4000000
namespace Wn
open PySem PySem.Spec PyProof.Rows L2
mutual
def bd : Bs → Nat
  | .num _ => 1
  | .nm _ => 1
  | .op _ a b => 1 + max (bd a) (bd b)
  | .tell a => 1 + bd a
  | .lt _ a b => 1 + max (bd a) (bd b)
  | .ite a b c => 1 + max (bd a) (max (bd b) (bd c))
  | .ask _ as => 1 + as.length + bds as
def bds : List Bs → Nat
  | [] => 0
  | a :: r => max (bd a) (bds r)
end
theorem bd_emb : ∀ s : Tms, bd (emb s) ≤ tdep s
  | .num _ => Nat.le_refl _
  | .nm _ => Nat.le_refl _
  | .op _ a b => by
    have h1 := bd_emb a
    have h2 := bd_emb b
    simp only [emb, bd, tdep]; omega
theorem bds_emb : ∀ {ss : List Tms} {d : Nat}, (∀ s ∈ ss, tdep s ≤ d) → bds (ss.map emb) ≤ d
  | [], _, _ => Nat.zero_le _
  | s :: ss, d, h => by
    have h1 := bd_emb s
    have h2 := h s List.mem_cons_self
    have h3 := bds_emb (ss := ss) (d := d) fun t ht => h t (List.mem_cons_of_mem _ ht)
    simp only [List.map_cons, bds]; omega
theorem bd_back : ∀ {p : Pts}, TD p → bd (back p) ≤ nst p + 13
  | .give _ s, h => by
    have := bd_emb s
    have h' : tdep s ≤ 2 := h
    simp only [back, nst]; omega
  | .ask _ ss _, h => by
    have := bds_emb h.1
    have h2 := h.2
    simp only [back, bd, nst, List.length_map]; omega
  | .st tl _ s T, h => by
    have h1 := bd_emb s
    have h2 := bd_back h.2
    have h3 := h.1
    have h4 : bd (if tl then B.tell (emb s) else emb s) ≤ 3 := by
      cases tl
      · show bd (emb s) ≤ 3; omega
      · show bd (.tell (emb s)) ≤ 3; simp only [bd]; omega
    simp only [back, bd, nst]; omega
  | .ite s T U, h => by
    have h1 := bd_emb s
    have h2 := bd_back h.2.1
    have h3 := bd_back h.2.2
    have h4 := h.1
    simp only [back, bd, nst]; omega
  | .post _ _ T U, h => by
    have h2 := bd_back h.1
    have h3 := bd_back h.2
    simp only [back, bd, nst]; omega
/-- names not too many, texts right, not too deep -/
structure BOk (n : Nat) (t : Bs) : Prop where
  nb : n + bd t ≤ 90
  can : (encB t).canLay0 = true
  dep : (encB t).depth ≤ 60
theorem canAll_mem : ∀ {l : List Bs} {b : Bs}, PyData.canLayAll0 (encBs l) = true → b ∈ l → (encB b).canLay0 = true
  | a :: r, b, h, hm => by
    simp only [encBs, PyData.canLayAll0, Bool.and_eq_true] at h
    rcases List.mem_cons.mp hm with e | e
    · rw [e]; exact h.1
    · exact canAll_mem h.2 e
theorem depAll_mem : ∀ {l : List Bs} {b : Bs}, b ∈ l → (encB b).depth ≤ PyData.depthAll (encBs l)
  | a :: r, b, hm => by
    simp only [encBs, PyData.depthAll]
    rcases List.mem_cons.mp hm with e | e
    · rw [e]; omega
    · have := depAll_mem (l := r) e; omega
theorem bds_mem : ∀ {l : List Bs} {b : Bs}, b ∈ l → bd b ≤ bds l
  | a :: r, b, hm => by
    simp only [bds]
    rcases List.mem_cons.mp hm with e | e
    · rw [e]; omega
    · have := bds_mem (l := r) e; omega
theorem BOk.part {n : Nat} {t p : Bs} (h : BOk n t) (hp : p ∈ parts t) : BOk n p := by
  obtain ⟨h1, h2, h3⟩ := h
  cases t with
  | num _ => cases hp
  | nm _ => cases hp
  | op l a b =>
    simp only [encB, PyData.canLay0, PyData.canLayAll0, Bool.and_eq_true, PyData.depth, PyData.depthAll, bd] at h1 h2 h3
    simp only [parts, List.mem_cons, List.not_mem_nil, or_false] at hp
    rcases hp with rfl | rfl
    · exact ⟨by omega, h2.2.1, by omega⟩
    · exact ⟨by omega, h2.2.2.1, by omega⟩
  | tell a =>
    simp only [encB, PyData.canLay0, PyData.canLayAll0, Bool.and_eq_true, PyData.depth, PyData.depthAll, bd] at h1 h2 h3
    simp only [parts, List.mem_cons, List.not_mem_nil, or_false] at hp
    subst hp
    exact ⟨by omega, h2.2.1, by omega⟩
  | lt x a b =>
    simp only [encB, PyData.canLay0, PyData.canLayAll0, Bool.and_eq_true, PyData.depth, PyData.depthAll, bd] at h1 h2 h3
    simp only [parts, List.mem_cons, List.not_mem_nil, or_false] at hp
    rcases hp with rfl | rfl
    · exact ⟨by omega, h2.2.2.1, by omega⟩
    · exact ⟨by omega, h2.2.2.2.1, by omega⟩
  | ite a b c =>
    simp only [encB, PyData.canLay0, PyData.canLayAll0, Bool.and_eq_true, PyData.depth, PyData.depthAll, bd] at h1 h2 h3
    simp only [parts, List.mem_cons, List.not_mem_nil, or_false] at hp
    rcases hp with rfl | rfl | rfl
    · exact ⟨by omega, h2.2.1, by omega⟩
    · exact ⟨by omega, h2.2.2.1, by omega⟩
    · exact ⟨by omega, h2.2.2.2.1, by omega⟩
  | ask f as =>
    simp only [encB, PyData.canLay0, PyData.canLayAll0, Bool.and_eq_true, PyData.depth, PyData.depthAll, bd] at h1 h2 h3
    have hp' : p ∈ as := hp
    have z1 := bds_mem hp'
    have z2 := depAll_mem hp'
    exact ⟨by omega, canAll_mem h2.2.2.1 hp', by omega⟩
theorem BOk.body {n : Nat} {x : Str} {a b : Bs} (h : BOk n (.lt x a b)) : BOk (n + 1) b := by
  have z := h.part (p := b) (by simp [parts])
  have h1 := h.nb
  simp only [bd] at h1
  exact ⟨by omega, z.can, z.dep⟩
theorem BOk.shapes {n : Nat} {t : Bs} (h : BOk n t) : SeqAt.shaped (.tuple (encBs (parts t))) = true := by
  have hc : PyData.canLayAll0 (encBs (parts t)) = true := by
    have key : ∀ l : List Bs, (∀ b ∈ l, (encB b).canLay0 = true) → PyData.canLayAll0 (encBs l) = true := by
      intro l
      induction l with
      | nil => intro _; rfl
      | cons a r ih =>
        intro q
        show ((encB a).canLay0 && PyData.canLayAll0 (encBs r)) = true
        rw [q a List.mem_cons_self, ih fun b hb => q b (List.mem_cons_of_mem _ hb)]; rfl
    exact key _ fun b hb => (h.part hb).can
  have hd : PyData.depthAll (encBs (parts t)) ≤ 60 := by
    have key : ∀ l : List Bs, (∀ b ∈ l, (encB b).depth ≤ 60) → PyData.depthAll (encBs l) ≤ 60 := by
      intro l
      induction l with
      | nil => intro _; exact Nat.zero_le _
      | cons a r ih =>
        intro q
        have h1 := q a List.mem_cons_self
        have h2 := ih fun b hb => q b (List.mem_cons_of_mem _ hb)
        show max (encB a).depth (PyData.depthAll (encBs r)) ≤ 60
        omega
    exact key _ fun b hb => (h.part hb).dep
  unfold SeqAt.shaped
  rw [Bool.and_eq_true]
  refine ⟨hc, decide_eq_true ?_⟩
  show PyData.depthAll (encBs (parts t)) + 1 ≤ 64
  omega
/-- frames in the heap -/
def FV (K : PySem.W.Frag) (H : Hp) : List (Fr Str) → V → Prop
  | [], v => v = .non
  | f :: rest, v => ∃ (a dd ai da : Addr) (vt vr : V) (n : Nat) (xb : Bool), v = .ref a ∧ SqT K H a [vt, .ref dd, .ref ai, .ref da, vr] ∧ Dp K H vt (encB f.t) ∧ DK H dd n (fun y => (f.r y).map V.int) ∧ BOk n f.t ∧ SqT K H ai [.int (f.ht : Nat), .bl f.la, .bl xb] ∧ SqT K H da (f.dn.map .int) ∧ f.dn.length ≤ 1000 ∧ FV K H rest vr
/-- what is at hand in the heap -/
def AV (K : PySem.W.Frag) (H : Hp) : At Str → V → Prop
  | .val n, v => v = .int n
  | .nothing, v => v = .non
  | .foc t r ht la, v => ∃ (a dd ai : Addr) (vt : V) (n : Nat) (xb : Bool), v = .ref a ∧ SqT K H a [vt, .ref dd, .ref ai] ∧ Dp K H vt (encB t) ∧ DK H dd n (fun y => (r y).map V.int) ∧ BOk n t ∧ SqT K H ai [.int (ht : Nat), .bl la, .bl xb]
section
variable {K : PySem.W.Frag} {H H' : Hp}
theorem FV.same (e : Same H H') : ∀ {l : List (Fr Str)} {v : V}, FV K H l v → FV K H' l v
  | [], _, h => h
  | f :: rest, v, h =>
    let ⟨a, dd, ai, da, vt, vr, n, xb, q0, q1, q2, q3, q4, q5, q6, q7, q8⟩ := h
    ⟨a, dd, ai, da, vt, vr, n, xb, q0, same_tup e q1, dp_mono e q2, q3.mono e, q4, same_tup e q5, same_tup e q6, q7, FV.same e q8⟩
theorem AV.same (e : Same H H') : ∀ {a : At Str} {v : V}, AV K H a v → AV K H' a v
  | .val _, _, h => h
  | .nothing, _, h => h
  | .foc t r ht la, v, h =>
    let ⟨a, dd, ai, vt, n, xb, q0, q1, q2, q3, q4, q5⟩ := h
    ⟨a, dd, ai, vt, n, xb, q0, same_tup e q1, dp_mono e q2, q3.mono e, q4, same_tup e q5⟩
theorem encBs_len : ∀ l : List Bs, (encBs l).length = l.length
  | [] => rfl
  | _ :: r => congrArg (· + 1) (encBs_len r)
theorem encBs_get : ∀ {l : List Bs} {i : Nat} {b : Bs}, l[i]? = some b → (encBs l)[i]? = some (encB b)
  | [], _, _, h => by simp at h
  | a :: r, 0, b, h => by cases h; rfl
  | a :: r, i + 1, b, h => encBs_get (l := r) (i := i) h
theorem bds_get : ∀ {l : List Bs} {i : Nat} {b : Bs}, l[i]? = some b → bd b ≤ bds l
  | [], _, _, h => by simp at h
  | a :: r, 0, b, h => by cases h; simp only [bds]; omega
  | a :: r, i + 1, b, h => by
    have := bds_get (l := r) (i := i) h
    simp only [bds]; omega
end
def tagB : Bs → Str
  | .num _ => "number"
  | .nm _ => "name"
  | .op l _ _ => kwO l
  | .tell _ => "tell"
  | .lt _ _ _ => "let"
  | .ite _ _ _ => "if"
  | .ask _ _ => "ask"
theorem enc_tag (b : Bs) : ∃ r, encB b = .tuple (.str (tagB b) :: r) := by cases b <;> exact ⟨_, rfl⟩
theorem bb_tag {K : PySem.W.Frag} {H : Hp} {v : V} {b : Bs} (h : Dp K H v (encB b)) : ∃ a rest, v = .ref a ∧ SqT K H a (.str (tagB b) :: rest) := by
  obtain ⟨r, e⟩ := enc_tag b
  rw [e] at h
  obtain ⟨a, xs, rfl, h1, h2⟩ := dp_tup h
  obtain ⟨x, rr, rfl, q1, h2⟩ := dpa_cons h2
  cases dp_str q1
  exact ⟨a, rr, rfl, h1⟩
theorem bb_parts {K : PySem.W.Frag} {H : Hp} {v : V} {b : Bs} (h : Dp K H v (encB b)) : ∃ a rest, v = .ref a ∧ SqT K H a (.str (tagB b) :: rest) ∧ match b with
    | .num n => rest = [.int n]
    | .nm x => rest = [.str x]
    | .op _ a b => ∃ x y, rest = [x, y] ∧ DpAll K H [x, y] (encBs [a, b])
    | .tell a => ∃ x, rest = [x] ∧ DpAll K H [x] (encBs [a])
    | .lt w a b => ∃ x y, rest = [.str w, x, y] ∧ DpAll K H [x, y] (encBs [a, b])
    | .ite a b c => ∃ x y z, rest = [x, y, z] ∧ DpAll K H [x, y, z] (encBs [a, b, c])
    | .ask f as => ∃ t ys, rest = [.str f, .ref t] ∧ SqT K H t ys ∧ DpAll K H ys (encBs as) := by
  cases b with
  | num n =>
    obtain ⟨a, xs, rfl, h1, h2⟩ := dp_tup h
    obtain ⟨x, r, rfl, q1, h2⟩ := dpa_cons h2
    obtain ⟨y, r, rfl, q2, h2⟩ := dpa_cons h2
    cases dpa_nil h2; cases dp_str q1; cases dp_int q2
    exact ⟨a, _, rfl, h1, rfl⟩
  | nm x =>
    obtain ⟨a, xs, rfl, h1, h2⟩ := dp_tup h
    obtain ⟨x, r, rfl, q1, h2⟩ := dpa_cons h2
    obtain ⟨y, r, rfl, q2, h2⟩ := dpa_cons h2
    cases dpa_nil h2; cases dp_str q1; cases dp_str q2
    exact ⟨a, _, rfl, h1, rfl⟩
  | op l a b =>
    obtain ⟨a', xs, rfl, h1, h2⟩ := dp_tup h
    obtain ⟨x, r, rfl, q1, k1⟩ := dpa_cons h2
    obtain ⟨y, r, rfl, q2, k2⟩ := dpa_cons k1
    obtain ⟨z, r, rfl, q3, k3⟩ := dpa_cons k2
    cases dpa_nil k3; cases dp_str q1
    exact ⟨a', _, rfl, h1, y, z, rfl, k1⟩
  | tell a =>
    obtain ⟨a', xs, rfl, h1, h2⟩ := dp_tup h
    obtain ⟨x, r, rfl, q1, k1⟩ := dpa_cons h2
    obtain ⟨y, r, rfl, q2, k2⟩ := dpa_cons k1
    cases dpa_nil k2; cases dp_str q1
    exact ⟨a', _, rfl, h1, y, rfl, k1⟩
  | lt w a b =>
    obtain ⟨a', xs, rfl, h1, h2⟩ := dp_tup h
    obtain ⟨x, r, rfl, q1, k1⟩ := dpa_cons h2
    obtain ⟨x2, r, rfl, q2, k2⟩ := dpa_cons k1
    obtain ⟨y, r, rfl, q3, k3⟩ := dpa_cons k2
    obtain ⟨z, r, rfl, q4, k4⟩ := dpa_cons k3
    cases dpa_nil k4; cases dp_str q1; cases dp_str q2
    exact ⟨a', _, rfl, h1, y, z, rfl, k2⟩
  | ite a b c =>
    obtain ⟨a', xs, rfl, h1, h2⟩ := dp_tup h
    obtain ⟨x, r, rfl, q1, k1⟩ := dpa_cons h2
    obtain ⟨y, r, rfl, q2, k2⟩ := dpa_cons k1
    obtain ⟨z, r, rfl, q3, k3⟩ := dpa_cons k2
    obtain ⟨u, r, rfl, q4, k4⟩ := dpa_cons k3
    cases dpa_nil k4; cases dp_str q1
    exact ⟨a', _, rfl, h1, y, z, u, rfl, k1⟩
  | ask f as =>
    obtain ⟨a', xs, rfl, h1, h2⟩ := dp_tup h
    obtain ⟨x, r, rfl, q1, k1⟩ := dpa_cons h2
    obtain ⟨x2, r, rfl, q2, k2⟩ := dpa_cons k1
    obtain ⟨y, r, rfl, q3, k3⟩ := dpa_cons k2
    obtain ⟨t, ys, rfl, h4, h5⟩ := dp_tup q3
    cases dpa_nil k3; cases dp_str q1; cases dp_str q2
    exact ⟨a', _, rfl, h1, t, ys, rfl, h4, h5⟩
def spParts2 (K : PySem.W.Frag) : Sp := fun vs H Q _ => ∃ v b, vs = [v] ∧ Dp K H v (encB b) ∧ ∀ p H' ys, Same H H' → SqT K H' p ys → DpAll K H' ys (encBs (parts b)) → Q (.ref p) H'
theorem inV_kw : ∀ b : Bs, inV (.str (tagB b)) [V.str "number", V.str "name"] = (match b with | .num _ => true | .nm _ => true | _ => false) := by
  have h : inV (.str "number") [V.str "number", V.str "name"] = true ∧ inV (.str "name") [V.str "number", V.str "name"] = true ∧ inV (.str "plus") [V.str "number", V.str "name"] = false ∧ inV (.str "less") [V.str "number", V.str "name"] = false ∧ inV (.str "tell") [V.str "number", V.str "name"] = false ∧ inV (.str "let") [V.str "number", V.str "name"] = false ∧ inV (.str "if") [V.str "number", V.str "name"] = false ∧ inV (.str "ask") [V.str "number", V.str "name"] = false := by decide +kernel
  intro b
  cases b with
  | num _ => exact h.1
  | nm _ => exact h.2.1
  | op l _ _ => cases l; exact h.2.2.1; exact h.2.2.2.1
  | tell _ => exact h.2.2.2.2.1
  | lt _ _ _ => exact h.2.2.2.2.2.1
  | ite _ _ _ => exact h.2.2.2.2.2.2.1
  | ask _ _ => exact h.2.2.2.2.2.2.2
section
variable {P : Program} {w : World} {K : PySem.W.Frag} {mg : Str → Option Value} {base : Heap} {ad : Nat → Addr} {fd : Nat → FuncData} {cL cT cN cB : Addr}
theorem ok_Lparts (T : Tx K mg ad fd cL cT cN cB) : FnOk P w K mg base CX0 1 (ad 33) (fd 33) ["term"] (spParts2 K) := by
  refine T.F_Lparts.ok sc_Lparts (fun vs H Q E h => ?_) (fun cdv A outer s H vs Q E hr h => ?_)
  · obtain ⟨v, b, rfl, _⟩ := h
    rfl
  obtain ⟨v, b, rfl, hv, q⟩ := h
  refine ⟨_, (pss_cons (ps_if (pt_cmpR op_in_seq (pe_ix ix_tup (pv 0) pe_int (fun _ _ => rfl)) (pe_tup (pa_cons pe_str (pa_cons pe_str pa_nil))) (by rfl)) (pss_one (ps_ret (pe_tup pa_nil))) pss_nil)
    (pss_cons (ps_if (pt_cmpR op_eq (pe_ix ix_tup (pv 0) pe_int (fun _ _ => rfl)) pe_str (nomark _)) (pss_one (ps_ret (pe_ix ix_tup (pv 0) pe_int (fun _ _ => rfl)))) pss_nil)
    (pss_one (ps_ret (pe_slice sl_tupA (pv 0) (po_some (pe_op op_add pe_int (pe_callTy (T := "int") call_int1 (by rfl) T.z_int (by decide +kernel) (pa_cons (pe_cmpR op_eq (pe_ix ix_tup (pv 0) pe_int (fun _ _ => rfl)) pe_str (nomark _)) pa_nil)))) po_none))))), ?_⟩
  obtain ⟨a, rest, rfl, hS, hp⟩ := bb_parts hv
  refine sq_ifC (c_test (c_opL (c_val (v_ixT (val_var rfl) val_c hS (atI_nat (j := 0) rfl)) (c_tupV (va_cons val_c (va_cons val_c va_nil)) (by simp) fun pt hpt => ⟨pt, _, rfl, .inr (SqT.of upd_same), rfl, rfl, _, rfl, ?_⟩))))
  have e0 := same_new (o := .tup [V.str "number", V.str "name"]) hpt
  have hS0 := same_tup e0 hS
  simp only [Bool.false_eq_true, if_false]
  rw [inV_kw]
  cases b with
  | num n => exact iteT (c_ret (c_tupV va_nil (by simp) fun p hp => q p _ [] (e0.trans (same_new hp)) (SqT.of upd_same) .nil))
  | nm n => exact iteT (c_ret (c_tupV va_nil (by simp) fun p hp => q p _ [] (e0.trans (same_new hp)) (SqT.of upd_same) .nil))
  | ask f as =>
    obtain ⟨t, ys, rfl, h1, h2⟩ := hp
    replace hS0 : SqT K _ a (V.str ("ask" : Str) :: [.str f, .ref t]) := hS0
    refine iteF ?_
    unfold tNext
    dsimp only
    refine st_seq (st_yes (a_eq (v_ixT (val_var rfl) val_c hS0 (atI_nat (j := 0) rfl)) val_c rfl (by decide +kernel)) ?_)
    exact st_ret (v_ixT (val_var rfl) val_c hS0 (atI_nat (j := 2) rfl)) (q t _ ys e0 (same_tup e0 h1) (dpa_mono e0 h2))
  | lt w b1 b2 =>
    obtain ⟨x, y, rfl, h2⟩ := hp
    replace hS0 : SqT K _ a (V.str ("let" : Str) :: [.str w, x, y]) := hS0
    refine iteF ?_
    unfold tNext
    dsimp only
    refine sq_no (a_eq (v_ixT (val_var rfl) val_c hS0 (atI_nat (j := 0) rfl)) val_c rfl (by decide +kernel)) ?_
    refine c_ret (c_slA (l := some 2) (val_var rfl) hS0 (to_some (v_is (v_I0 val_c (v_int_bl (v_is (v_eq (v_ixT (val_var rfl) val_c hS0 (atI_nat (j := 0) rfl)) val_c rfl) (show _ = V.bl true by decide +kernel)))) rfl)) to_none (ys := [x, y]) rfl fun p H' e1 h1 => q p H' [x, y] (e0.trans e1) h1 (dpa_mono (e0.trans e1) h2))
  | op l b1 b2 =>
    obtain ⟨x, y, rfl, h2⟩ := hp
    replace hS0 : SqT K _ a (V.str (kwO l) :: [x, y]) := hS0
    refine iteF ?_
    unfold tNext
    dsimp only
    refine sq_no (a_eq (v_ixT (val_var rfl) val_c hS0 (atI_nat (j := 0) rfl)) val_c rfl (by cases l <;> decide +kernel)) ?_
    refine c_ret (c_slA (l := some 1) (val_var rfl) hS0 (to_some (v_is (v_I0 val_c (v_int_bl (v_is (v_eq (v_ixT (val_var rfl) val_c hS0 (atI_nat (j := 0) rfl)) val_c rfl) (show _ = V.bl false by cases l <;> decide +kernel)))) rfl)) to_none (ys := [x, y]) rfl fun p H' e1 h1 => q p H' [x, y] (e0.trans e1) h1 (dpa_mono (e0.trans e1) h2))
  | tell b1 =>
    obtain ⟨x, rfl, h2⟩ := hp
    replace hS0 : SqT K _ a (V.str ("tell" : Str) :: [x]) := hS0
    refine iteF ?_
    unfold tNext
    dsimp only
    refine sq_no (a_eq (v_ixT (val_var rfl) val_c hS0 (atI_nat (j := 0) rfl)) val_c rfl (by decide +kernel)) ?_
    refine c_ret (c_slA (l := some 1) (val_var rfl) hS0 (to_some (v_is (v_I0 val_c (v_int_bl (v_is (v_eq (v_ixT (val_var rfl) val_c hS0 (atI_nat (j := 0) rfl)) val_c rfl) (show _ = V.bl false by decide +kernel)))) rfl)) to_none (ys := [x]) rfl fun p H' e1 h1 => q p H' [x] (e0.trans e1) h1 (dpa_mono (e0.trans e1) h2))
  | ite b1 b2 b3 =>
    obtain ⟨x, y, z, rfl, h2⟩ := hp
    replace hS0 : SqT K _ a (V.str ("if" : Str) :: [x, y, z]) := hS0
    refine iteF ?_
    unfold tNext
    dsimp only
    refine sq_no (a_eq (v_ixT (val_var rfl) val_c hS0 (atI_nat (j := 0) rfl)) val_c rfl (by decide +kernel)) ?_
    refine c_ret (c_slA (l := some 1) (val_var rfl) hS0 (to_some (v_is (v_I0 val_c (v_int_bl (v_is (v_eq (v_ixT (val_var rfl) val_c hS0 (atI_nat (j := 0) rfl)) val_c rfl) (show _ = V.bl false by decide +kernel)))) rfl)) to_none (ys := [x, y, z]) rfl fun p H' e1 h1 => q p H' [x, y, z] (e0.trans e1) h1 (dpa_mono (e0.trans e1) h2))
end
end Wn
end
section
set_option Elab.async false
set_option linter.all false
set_option maxRecDepth 100000
set_option maxHeartbeats 4000000
namespace Wn
open PySem PySem.Spec PyProof.Rows L2
def spOn (K : PySem.W.Frag) : Sp := fun vs H Q _ => ∃ (S : Addr → Prop) (t : Bs) (r : Str → Option Int) (ht : Nat) (la xb : Bool) (rest : List (Fr Str)) (a : At Str) (rest' : List (Fr Str)) (vt vr : V) (dd ai : Addr) (n : Nat), vs = [vt, .ref dd, .ref ai, vr] ∧ MutS S H ∧ Dp K (msk S H) vt (encB t) ∧ DK (msk S H) dd n (fun y => (r y).map V.int) ∧ BOk n t ∧ SqT K (msk S H) ai [.int (ht : Nat), .bl la, .bl xb] ∧ FV K (msk S H) rest vr ∧ onB t r ht la rest = some (a, rest') ∧
  ∀ p H' va vr', Same H H' → SqT K H' p [va, vr'] → AV K (msk S H') a va → FV K (msk S H') rest' vr' → Q (.ref p) H'
theorem shaped_nil : SeqAt.shaped (.tuple []) = true := by decide +kernel
section
variable {P : Program} {w : World} {K : PySem.W.Frag} {mg : Str → Option Value} {base : Heap} {ad : Nat → Addr} {fd : Nat → FuncData} {cL cT cN cB : Addr}
theorem eqv_nilT (l : List PyData) : PyData.eqv (.tuple l) (.tuple []) = decide (l = []) := by
  cases l <;> rfl
theorem on_tail (T : Tx K mg ad fd cL cT cN cB) {S : Addr → Prop} {H : Hp} {Q : VK} {t : Bs} {r : Str → Option Int} {ht : Nat} {la xb : Bool} {rest rest' : List (Fr Str)} {a : At Str} {ta dd ai : Addr} {vr : V} {n : Nat}
    (q : ∀ p H' va vr', Same H H' → SqT K H' p [va, vr'] → AV K (msk S H') a va → FV K (msk S H') rest' vr' → Q (.ref p) H') (mS : MutS S H) (hv : Dp K (msk S H) (.ref ta) (encB t)) (hd : DK (msk S H) dd n (fun y => (r y).map V.int)) (hn : BOk n t) (hai : SqT K (msk S H) ai [.int (ht : Nat), .bl la, .bl xb]) (hfv : FV K (msk S H) rest vr)
    (hon : (parts t = [] ∧ a = .nothing ∧ rest' = ⟨t, r, ht, la, []⟩ :: rest) ∨ ∃ p ps, parts t = p :: ps ∧ a = .foc p r ht false ∧ rest' = ⟨t, r, ht, la, []⟩ :: rest) :
    tSeq (tAsg (tCall (spParts2 K) [] E0 (tCons (tVar 0) tNil)) (gName 4)) (tSeq (tAsg (tTup (tCons (tVar 0) (tCons (tVar 1) (tCons (tVar 2) (tCons (tTup tNil) (tCons (tVar 3) tNil)))))) (gName 3))
      (tSeq (tIfS (tTest (tOp (rEqD K) (tVar 4) (tTup tNil))) (tRet (tTup (tCons (tC .non) (tCons (tVar 3) tNil)))) tNext)
        (tRet (tTup (tCons (tTup (tCons (tOp (rIxT K) (tVar 4) (tC (.int 0))) (tCons (tVar 1) (tCons (tTup (tCons (tOp (rIxT K) (tVar 2) (tC (.int 0))) (tCons (tC (.bl false)) (tCons (tC (.bl false)) tNil)))) tNil)))) (tCons (tVar 3) tNil))))))
      { nx := fun x H' => Q V.non H', rt := Q } [some (.ref ta), some (.ref dd), some (.ref ai), some vr, none] H := by
  refine sq_setC (c_call (va_cons (val_var rfl) va_nil) ⟨_, t, rfl, dp_mono msk_same hv, fun pp H1 ys e1 hpp hys => ?_⟩)
  refine sq_setC (c_tup' (c_cons (c_val (val_var rfl) (c_cons (c_val (val_var rfl) (c_cons (c_val (val_var rfl) (c_cons (c_tupV va_nil (by simp) fun dn hdn => c_cons (c_val (val_var rfl) (c_nil ⟨sz_of (by simp), fun fr hfr => ?_⟩)))))))))))
  have e2 := same_new (o := .tup []) hdn
  have e3 := same_new (o := .tup [V.ref ta, V.ref dd, V.ref ai, V.ref dn, vr]) hfr
  have e123 := e1.trans (e2.trans e3)
  have m1 := mutS_same mS e1
  have hF : FV K (msk S (upd (upd H1 dn (.tup [])) fr (.tup [V.ref ta, V.ref dd, V.ref ai, V.ref dn, vr]))) (⟨t, r, ht, la, []⟩ :: rest) (.ref fr) := by
    have g := (But.of (S := S) e123).msk
    exact ⟨fr, dd, ai, dn, _, vr, n, xb, rfl, msk_new (mutS_same m1 e2) hfr, dp_mono g hv, hd.mono g, hn, same_tup g hai, same_tup (But.of e3).msk (msk_new m1 hdn), Nat.zero_le _, hfv.same g⟩
  have hpp3 := same_tup (e2.trans e3) hpp
  have hys3 := dpa_mono (e2.trans e3) hys
  have gm := (But.of (S := S) e123).msk
  generalize upd (upd H1 dn (.tup [])) fr (.tup [V.ref ta, V.ref dd, V.ref ai, V.ref dn, vr]) = H3 at *
  have m3 := mutS_same mS e123
  refine sq_ifC (c_test (c_opL (c_val (val_var rfl) (c_tupV va_nil (by simp) fun pe hpe => ?_))))
  have e4 := same_new (o := .tup []) hpe
  refine ⟨.tuple (encBs (parts t)), .tuple [], .tup (same_tup e4 hpp3) (dpa_mono e4 hys3), .tup (SqT.of upd_same) .nil, hn.shapes, shaped_nil, ?_⟩
  rw [eqv_nilT]
  rcases hon with ⟨h1, h2, h3⟩ | ⟨p, ps, h1, h2, h3⟩
  · subst h2 h3
    refine ⟨true, by rw [h1]; rfl, iteT ?_⟩
    refine c_ret (c_tupV (va_cons val_c (va_cons (val_var rfl) va_nil)) (by simp) fun px hpx => ?_)
    have e5 := same_new (o := .tup [V.non, V.ref fr]) hpx
    exact q px _ _ _ (e123.trans (e4.trans e5)) (SqT.of upd_same) rfl (FV.same (But.of (e4.trans e5)).msk hF)
  · subst h2 h3
    refine ⟨false, by rw [h1]; rfl, iteF ?_⟩
    rw [h1] at hys3
    obtain ⟨y, yr, rfl, hy, _⟩ := dpa_cons hys3
    have hpt : p ∈ parts t := by rw [h1]; exact List.mem_cons_self
    refine c_ret (c_tup' (c_cons (c_tup' (c_cons (c_val (v_ixT (val_var rfl) val_c (same_tup e4 hpp3) (atI_nat (j := 0) rfl)) (c_cons (c_val (val_var rfl) (c_cons (c_tupV (va_cons (v_ixT (val_var rfl) val_c (same_tup e4 (same_tup gm hai |> same_tup msk_same)) (atI_nat (j := 0) rfl)) (va_cons val_c (va_cons val_c va_nil))) (by simp) fun ai2 hai2 => c_nil ⟨sz_of (by simp), fun at2 hat2 => c_cons (c_val (val_var rfl) (c_nil ⟨sz_of (by simp), fun px hpx => ?_⟩))⟩)))))))))
    have e5 := same_new (o := .tup [V.int ht, V.bl false, V.bl false]) hai2
    have e6 := same_new (o := .tup [y, V.ref dd, V.ref ai2]) hat2
    have e7 := same_new (o := .tup [V.ref at2, V.ref fr]) hpx
    have m4 := mutS_same m3 e4
    have g47 := (But.of (S := S) (e4.trans (e5.trans (e6.trans e7)))).msk
    refine q px _ _ _ (e123.trans (e4.trans (e5.trans (e6.trans e7)))) (SqT.of upd_same) ⟨at2, dd, ai2, y, n, false, rfl, same_tup (But.of e7).msk (msk_new (mutS_same m4 e5) hat2), ?_, (hd.mono gm).mono g47, hn.part hpt, same_tup (But.of (e6.trans e7)).msk (msk_new m4 hai2)⟩ (FV.same g47 hF)
    exact dp_mono g47 (msk_dp m3 (noL_B _) hy)
theorem ok_Lon (T : Tx K mg ad fd cL cT cN cB) : FnOk P w K mg base CX0 2 (ad 34) (fd 34) ["term", "names", "info", "rest"] (spOn K) := by
  have G_Lparts := ok_Lparts (P := P) (w := w) (base := base) T
  refine T.F_Lon.ok sc_Lon (fun vs H Q E h => ?_) (fun cdv A outer s H vs Q E hr h => ?_)
  · obtain ⟨S, t, r, ht, la, xb, rest, a, rest', vt, vr, dd, ai, n, rfl, _⟩ := h
    rfl
  obtain ⟨S, t, r, ht, la, xb, rest, a, rest', vt, vr, dd, ai, n, rfl, mS, hv, hd, hn, hai, hfv, hon, q⟩ := h
  refine ⟨_, (pss_cons (ps_if (pt_cmpR op_eq (pe_ix ix_tup (pv 0) pe_int (fun _ _ => rfl)) pe_str (nomark _)) (pss_one (ps_ret (pe_tup (pa_cons (pe_ix ix_tup (pv 0) pe_int (fun _ _ => rfl)) (pa_cons (pv 3) pa_nil))))) pss_nil)
    (pss_cons (ps_if (pt_cmpR op_eq (pe_ix ix_tup (pv 0) pe_int (fun _ _ => rfl)) pe_str (nomark _)) (pss_one (ps_ret (pe_tup (pa_cons (pe_dget (hu_of hr) (pv 1) (pe_ix ix_tup (pv 0) pe_int (fun _ _ => rfl)) (fun _ _ => rfl)) (pa_cons (pv 3) pa_nil))))) pss_nil)
    (pss_cons (ps_set (i := 4) sc_Lon.nd rfl (Or.inl rfl) (pe_call G_Lparts (hr.mono (by first | decide | omega)) (by rfl) T.m_Lparts T.F_Lparts.kp (b_Lparts T) .nil pass0 (pa_cons (pv 0) pa_nil)))
    (pss_cons (ps_set (i := 3) sc_Lon.nd rfl (Or.inl rfl) (pe_tup (pa_cons (pv 0) (pa_cons (pv 1) (pa_cons (pv 2) (pa_cons (pe_tup pa_nil) (pa_cons (pv 3) pa_nil)))))))
    (pss_cons (ps_if (pt_cmpR (op_eqD hr.units) (pv 4) (pe_tup pa_nil) (nomark _)) (pss_one (ps_ret (pe_tup (pa_cons pe_non (pa_cons (pv 3) pa_nil))))) pss_nil)
    (pss_one (ps_ret (pe_tup (pa_cons (pe_tup (pa_cons (pe_ix ix_tup (pv 4) pe_int (fun _ _ => rfl)) (pa_cons (pv 1) (pa_cons (pe_tup (pa_cons (pe_ix ix_tup (pv 2) pe_int (fun _ _ => rfl)) (pa_cons pe_bl (pa_cons pe_bl pa_nil)))) pa_nil)))) (pa_cons (pv 3) pa_nil)))))))))), ?_⟩
  have hv0 := dp_mono msk_same hv
  obtain ⟨ta, trest, rfl, hS, hp⟩ := bb_parts hv0
  cases t with
  | num i =>
    subst hp
    cases hon
    replace hS : SqT K _ ta (V.str ("number" : Str) :: [.int i]) := hS
    refine st_seq (st_yes (a_eq (v_ixT (val_var rfl) val_c hS (atI_nat (j := 0) rfl)) val_c rfl (by decide +kernel)) ?_)
    refine c_ret (c_tupV (va_cons (v_ixT (val_var rfl) val_c hS (atI_nat (j := 1) rfl)) (va_cons (val_var rfl) va_nil)) (by simp) fun p hp => ?_)
    have e1 := same_new (o := .tup [V.int i, vr]) hp
    exact q p _ _ _ e1 (SqT.of upd_same) rfl (hfv.same (But.of e1).msk)
  | nm x =>
    subst hp
    replace hS : SqT K _ ta (V.str ("name" : Str) :: [.str x]) := hS
    simp only [onB] at hon
    cases hx : r x with
    | none => rw [hx] at hon; cases hon
    | some i =>
    rw [hx] at hon
    cases hon
    refine sq_no (a_eq (v_ixT (val_var rfl) val_c hS (atI_nat (j := 0) rfl)) val_c rfl (by decide +kernel)) ?_
    refine st_seq (st_yes (a_eq (v_ixT (val_var rfl) val_c hS (atI_nat (j := 0) rfl)) val_c rfl (by decide +kernel)) ?_)
    refine c_ret (c_tupV (va_cons (v_dget (val_var rfl) (v_ixT (val_var rfl) val_c hS (atI_nat (j := 1) rfl)) (hd.mono msk_same) (by rw [hx]; rfl)) (va_cons (val_var rfl) va_nil)) (by simp) fun p hp => ?_)
    have e1 := same_new (o := .tup [V.int i, vr]) hp
    exact q p _ _ _ e1 (SqT.of upd_same) rfl (hfv.same (But.of e1).msk)
  | op l b1 b2 =>
    replace hS : SqT K _ ta (V.str (kwO l) :: trest) := hS
    refine sq_no (a_eq (v_ixT (val_var rfl) val_c hS (atI_nat (j := 0) rfl)) val_c rfl (by cases l <;> decide +kernel)) ?_
    refine sq_no (a_eq (v_ixT (val_var rfl) val_c hS (atI_nat (j := 0) rfl)) val_c rfl (by cases l <;> decide +kernel)) ?_
    exact on_tail T q mS hv hd hn hai hfv (by cases hon; exact .inr ⟨b1, [b2], rfl, rfl, rfl⟩)
  | tell b1 =>
    replace hS : SqT K _ ta (V.str ("tell" : Str) :: trest) := hS
    refine sq_no (a_eq (v_ixT (val_var rfl) val_c hS (atI_nat (j := 0) rfl)) val_c rfl (by decide +kernel)) ?_
    refine sq_no (a_eq (v_ixT (val_var rfl) val_c hS (atI_nat (j := 0) rfl)) val_c rfl (by decide +kernel)) ?_
    exact on_tail T q mS hv hd hn hai hfv (by cases hon; exact .inr ⟨b1, [], rfl, rfl, rfl⟩)
  | lt x b1 b2 =>
    replace hS : SqT K _ ta (V.str ("let" : Str) :: trest) := hS
    refine sq_no (a_eq (v_ixT (val_var rfl) val_c hS (atI_nat (j := 0) rfl)) val_c rfl (by decide +kernel)) ?_
    refine sq_no (a_eq (v_ixT (val_var rfl) val_c hS (atI_nat (j := 0) rfl)) val_c rfl (by decide +kernel)) ?_
    exact on_tail T q mS hv hd hn hai hfv (by cases hon; exact .inr ⟨b1, [b2], rfl, rfl, rfl⟩)
  | ite b1 b2 b3 =>
    replace hS : SqT K _ ta (V.str ("if" : Str) :: trest) := hS
    refine sq_no (a_eq (v_ixT (val_var rfl) val_c hS (atI_nat (j := 0) rfl)) val_c rfl (by decide +kernel)) ?_
    refine sq_no (a_eq (v_ixT (val_var rfl) val_c hS (atI_nat (j := 0) rfl)) val_c rfl (by decide +kernel)) ?_
    exact on_tail T q mS hv hd hn hai hfv (by cases hon; exact .inr ⟨b1, [b2, b3], rfl, rfl, rfl⟩)
  | ask f as =>
    replace hS : SqT K _ ta (V.str ("ask" : Str) :: trest) := hS
    refine sq_no (a_eq (v_ixT (val_var rfl) val_c hS (atI_nat (j := 0) rfl)) val_c rfl (by decide +kernel)) ?_
    refine sq_no (a_eq (v_ixT (val_var rfl) val_c hS (atI_nat (j := 0) rfl)) val_c rfl (by decide +kernel)) ?_
    exact on_tail T q mS hv hd hn hai hfv (by
      cases as with
      | nil => cases hon; exact .inl ⟨rfl, rfl, rfl⟩
      | cons b1 bs => cases hon; exact .inr ⟨b1, bs, rfl, rfl, rfl⟩)
end
end Wn
end
section
set_option Elab.async false
set_option linter.all false
set_option maxRecDepth 100000
set_option maxHeartbeats 4000000
namespace Wn
open PySem PySem.Spec PyProof.Rows L2
/-- the record of a book's run -/
structure NB (K : PySem.W.Frag) (H : Hp) (now tl ed : Addr) (fn : Str → Option V) (evs : List (Ev Str)) (dp many most : Nat) (ve : V) : Prop where
  dk : DK H now 20 fn
  ft : fn "trail" = some (.ref tl)
  fdp : fn "deepest" = some (.int dp)
  fl : ∃ m : Int, fn "left" = some (.int m)
  fm : fn "many" = some (.int many)
  fmo : fn "most" = some (.int most)
  fe : fn "end" = some ve
  fer : fn "errands" = some (.ref ed)
  tla : ∃ acc, H tl = some (.lst acc) ∧ DpAll K H acc (evs.map encV)
  nt : now ≠ tl
section
variable {K : PySem.W.Frag} {H H' : Hp} {now tl ed : Addr} {fn : Str → Option V} {evs : List (Ev Str)} {dp many most : Nat} {ve : V} {kvs : List (Key × V)}
theorem NB.mutS (h : NB K H now tl ed fn evs dp many most ve) : MutS (S2 now tl) H := fun b hb => by
  rcases hb with hb | hb
  · rw [hb]; exact dk_mut h.dk
  · obtain ⟨acc, z, _⟩ := h.tla
    rw [hb, z]; trivial
theorem NB.same (h : NB K H now tl ed fn evs dp many most ve) (e : Same H H') : NB K H' now tl ed fn evs dp many most ve :=
  ⟨h.dk.mono e, h.ft, h.fdp, h.fl, h.fm, h.fmo, h.fe, h.fer, let ⟨acc, a, b⟩ := h.tla; ⟨acc, e _ _ a, dpa_mono e b⟩, h.nt⟩
theorem NB.tlU (h : NB K H now tl ed fn evs dp many most ve) : ∃ acc, upd H now (.dK kvs) tl = some (.lst acc) ∧ DpAll K (upd H now (.dK kvs)) acc (evs.map encV) := by
  obtain ⟨acc, a, b⟩ := h.tla
  exact ⟨acc, by rw [upd_ne (Ne.symm h.nt)]; exact a, but_dpa (But.mut (S := S2 now tl) (.inl rfl)) h.mutS (noLs_Vs _) b⟩
theorem NB.setMany (h : NB K H now tl ed fn evs dp many most ve) (hk : DK (upd H now (.dK kvs)) now 20 (fset fn "many" (.int (many + 1 : Nat)))) : NB K (upd H now (.dK kvs)) now tl ed (fset fn "many" (.int (many + 1 : Nat))) evs dp (many + 1) most ve :=
  ⟨hk, by rw [fset_ne (by decide +kernel)]; exact h.ft, by rw [fset_ne (by decide +kernel)]; exact h.fdp, by rw [fset_ne (by decide +kernel)]; exact h.fl, fset_same, by rw [fset_ne (by decide +kernel)]; exact h.fmo, by rw [fset_ne (by decide +kernel)]; exact h.fe, by rw [fset_ne (by decide +kernel)]; exact h.fer, h.tlU, h.nt⟩
theorem NB.deep {d : Nat} (h : NB K H now tl ed fn evs dp many most ve) (hk : DK (upd H now (.dK kvs)) now 20 (fset fn "deepest" (.int d))) : NB K (upd H now (.dK kvs)) now tl ed (fset fn "deepest" (.int d)) evs d many most ve :=
  ⟨hk, by rw [fset_ne (by decide +kernel)]; exact h.ft, fset_same, by rw [fset_ne (by decide +kernel)]; exact h.fl, by rw [fset_ne (by decide +kernel)]; exact h.fm, by rw [fset_ne (by decide +kernel)]; exact h.fmo, by rw [fset_ne (by decide +kernel)]; exact h.fe, by rw [fset_ne (by decide +kernel)]; exact h.fer, h.tlU, h.nt⟩
theorem NB.left {m : Int} (h : NB K H now tl ed fn evs dp many most ve) (hk : DK (upd H now (.dK kvs)) now 20 (fset fn "left" (.int m))) : NB K (upd H now (.dK kvs)) now tl ed (fset fn "left" (.int m)) evs dp many most ve :=
  ⟨hk, by rw [fset_ne (by decide +kernel)]; exact h.ft, by rw [fset_ne (by decide +kernel)]; exact h.fdp, ⟨m, fset_same⟩, by rw [fset_ne (by decide +kernel)]; exact h.fm, by rw [fset_ne (by decide +kernel)]; exact h.fmo, by rw [fset_ne (by decide +kernel)]; exact h.fe, by rw [fset_ne (by decide +kernel)]; exact h.fer, h.tlU, h.nt⟩
theorem NB.ends {v : V} (h : NB K H now tl ed fn evs dp many most ve) (hk : DK (upd H now (.dK kvs)) now 20 (fset fn "end" v)) : NB K (upd H now (.dK kvs)) now tl ed (fset fn "end" v) evs dp many most v :=
  ⟨hk, by rw [fset_ne (by decide +kernel)]; exact h.ft, by rw [fset_ne (by decide +kernel)]; exact h.fdp, by rw [fset_ne (by decide +kernel)]; exact h.fl, by rw [fset_ne (by decide +kernel)]; exact h.fm, by rw [fset_ne (by decide +kernel)]; exact h.fmo, fset_same, by rw [fset_ne (by decide +kernel)]; exact h.fer, h.tlU, h.nt⟩
theorem NB.tr {acc : List V} {pe : V} {ev : Ev Str} (h : NB K H now tl ed fn evs dp many most ve) (ha : H tl = some (.lst acc)) (hd : DpAll K H acc (evs.map encV)) (hp : Dp K H pe (encV ev)) : NB K (upd H tl (.lst (acc ++ [pe]))) now tl ed fn (evs ++ [ev]) dp many most ve := by
  have bm : But (S2 now tl) H (upd H tl (.lst (acc ++ [pe]))) := But.mut (.inr rfl)
  refine ⟨h.dk.upd_ne' h.nt, h.ft, h.fdp, h.fl, h.fm, h.fmo, h.fe, h.fer, ⟨_, upd_same, ?_⟩, h.nt⟩
  rw [List.map_append]
  exact dpa_snoc (but_dpa bm h.mutS (noLs_Vs _) hd) (but_dp bm h.mutS (noL_V _) hp)
end
/-- what is fixed in a book's run -/
structure FX (K : PySem.W.Frag) (now tl ed : Addr) (ge : Str → Option V) (F : Str → Option (List Str × Bs)) (H : Hp) : Prop where
  ed : DK (msk (S2 now tl) H) ed 10 ge
  ef : EF K encB (msk (S2 now tl) H) ge F
theorem FX.but {K : PySem.W.Frag} {now tl ed : Addr} {ge : Str → Option V} {F : Str → Option (List Str × Bs)} {H H' : Hp} (h : FX K now tl ed ge F H) (e : But (S2 now tl) H H') : FX K now tl ed ge F H' := ⟨h.ed.mono e.msk, h.ef.same e.msk⟩
/-- what an ask leads to -/
def PAsk (K : PySem.W.Frag) (now tl ed : Addr) (F : Str → Option (List Str × Bs)) (evs : List (Ev Str)) (dp many most : Nat) (f : Str) (ns : List Int) (h : Nat) (H : Hp) (Q : VK) : Prop :=
  (many = most → ∀ p H' fn' ve, But (S2 now tl) H H' → NB K H' now tl ed fn' evs dp many most ve → Dp K H' ve (encN .long) → Q (.ref p) H') ∧
  (many ≠ most → ∃ xs body, F f = some (xs, body) ∧ xs.length = ns.length ∧ xs.length ≤ 4 ∧ BOk 4 body ∧ ∀ v' H' fn', But (S2 now tl) H H' → NB K H' now tl ed fn' (evs ++ [.ask f ns]) (max dp h) (many + 1) most .non → AV K (msk (S2 now tl) H') (.foc body (bind0 xs ns) h true) v' → Q v' H')
def spAsked (K : PySem.W.Frag) : Sp := fun vs H Q _ => ∃ (now tl ed : Addr) (ge : Str → Option V) (F : Str → Option (List Str × Bs)) (fn : Str → Option V) (evs : List (Ev Str)) (dp many most : Nat) (f : Str) (na : Addr) (ns : List Int) (h : Nat), vs = [.ref now, .str f, .ref na, .int h] ∧ NB K H now tl ed fn evs dp many most .non ∧ FX K now tl ed ge F H ∧ SqT K (msk (S2 now tl) H) na (ns.map .int) ∧ evs.length ≤ 90000 ∧
  PAsk K now tl ed F evs dp many most f ns h H Q
section
variable {P : Program} {w : World} {K : PySem.W.Frag} {mg : Str → Option Value} {base : Heap} {ad : Nat → Addr} {fd : Nat → FuncData} {cL cT cN cB : Addr}
theorem BOk.mono {n m : Nat} {t : Bs} (h : BOk m t) (l : n ≤ m) : BOk n t := ⟨by have := h.nb; omega, h.can, h.dep⟩
theorem ok_Lasked (T : Tx K mg ad fd cL cT cN cB) : FnOk P w K mg base CX0 1 (ad 35) (fd 35) ["now", "f", "numbers", "height"] (spAsked K) := by
  refine T.F_Lasked.ok sc_Lasked (fun vs H Q E h => ?_) (fun cdv A outer s H vs Q E hr h => ?_)
  · obtain ⟨now, tl, ed, ge, F, fn, evs, dp, many, most, f, na, ns, h, rfl, _⟩ := h
    rfl
  obtain ⟨now, tl, ed, ge, F, fn, evs, dp, many, most, f, na, ns, h, rfl, hN, hX, hna, hev, q1, q2⟩ := h
  refine ⟨_, (pss_cons (ps_if (pt_cmpR op_eq (pe_dget (hu_of hr) (pv 0) pe_str (fun _ _ => rfl)) (pe_dget (hu_of hr) (pv 0) pe_str (fun _ _ => rfl)) (nomark _)) (pss_cons (ps_dput (hu_of hr) (pv 0) pe_str (pe_tup (pa_cons pe_str pa_nil)) rfl)
    (pss_one (ps_ret (pe_tup (pa_cons pe_non (pa_cons pe_non pa_nil)))))) pss_nil)
    (pss_cons (ps_dput (hu_of hr) (pv 0) pe_str (pe_op op_add (pe_dget (hu_of hr) (pv 0) pe_str (fun _ _ => rfl)) pe_int) rfl)
    (pss_cons (ps_dput (hu_of hr) (pv 0) pe_str (pe_callB (id := "max") (call_max2 rfl) (by rfl) T.z_max (by decide +kernel) (pa_cons (pe_dget (hu_of hr) (pv 0) pe_str (fun _ _ => rfl)) (pa_cons (pv 3) pa_nil))) rfl)
    (pss_cons (ps_expr (pe_bm PySem.F.plainAttrs_list PySem.F.slot_list_append PySem.F.type_list_append mt_append (pe_dget (hu_of hr) (pv 0) pe_str (fun _ _ => rfl)) (pa_cons (pe_tup (pa_cons pe_str (pa_cons (pv 1) (pa_cons (pv 2) pa_nil)))) pa_nil)))
    (pss_cons (ps_asg (pe_dget (hu_of hr) (pe_dget (hu_of hr) (pv 0) pe_str (fun _ _ => rfl)) (pv 1) (fun _ _ => rfl)) (pg_tup (by rfl) (pgs_cons (pg_name (i := 4) sc_Lasked.nd rfl (Or.inl rfl)) (pgs_cons (pg_name (i := 5) sc_Lasked.nd rfl (Or.inl rfl)) pgs_nil))))
    (pss_cons (ps_set (i := 6) sc_Lasked.nd rfl (Or.inl rfl) pe_dnewK)
    (pss_cons (ps_for PassesOwn.never rfl (pi_range1 (by rfl) T.z_range (pa_cons (pe_callB (id := "len") call_len_seq (by rfl) T.z_len (by decide +kernel) (pa_cons (pv 4) pa_nil)) pa_nil)) (pg_name (i := 7) sc_Lasked.nd rfl (Or.inl rfl))
    (pss_one (ps_dput (hu_of hr) (pv 6) (pe_ix ix_tup (pv 4) (pv 7) (fun _ _ => rfl)) (pe_ix ix_tup (pv 2) (pv 7) (fun _ _ => rfl)) rfl)))
    (pss_one (ps_ret (pe_tup (pa_cons (pv 5) (pa_cons (pv 6) (pa_cons (pe_tup (pa_cons (pv 3) (pa_cons pe_bl (pa_cons pe_bl pa_nil)))) pa_nil))))))))))))), ?_⟩
  by_cases hm : many = most
  · refine st_seq (st_yes (a_eq (v_dget (val_var rfl) val_c hN.dk hN.fm) (v_dget (val_var rfl) val_c hN.dk hN.fmo) rfl (by rw [hm, decide_eq_true rfl])) ?_)
    refine sq_dputC (c_tupV (va_cons val_c va_nil) (by simp) fun p1 hp1 => ?_)
    have e1 := same_new (o := .tup [V.str "long"]) hp1
    refine c_val (val_var rfl) (c_val val_c ((hN.dk.mono e1).put_old (by decide) hN.fe fun kvs hk => ?_))
    have hN2 := (hN.same e1).ends hk
    have b2 : But (S2 now tl) (upd H p1 (.tup [V.str "long"])) (upd (upd H p1 (.tup [V.str "long"])) now (.dK kvs)) := But.mut (.inl rfl)
    have d2 : Dp K (upd (upd H p1 (.tup [V.str "long"])) now (.dK kvs)) (.ref p1) (encN .long) := but_dp b2 (mutS_same hN.mutS e1) ⟨trivial, trivial⟩ (.tup (SqT.of upd_same) (.cons (.str _) .nil))
    refine c_ret (c_tupV (va_cons val_c (va_cons val_c va_nil)) (by simp) fun p2 hp2 => ?_)
    have e3 := same_new (o := .tup [V.non, V.non]) hp2
    exact q1 hm p2 _ _ _ ((But.of e1).trans (b2.trans (But.of e3))) (hN2.same e3) (dp_mono e3 d2)
  obtain ⟨xs, body, hF, hlen, hx4, hB, q2⟩ := q2 hm
  refine sq_no (a_eq (v_dget (val_var rfl) val_c hN.dk hN.fm) (v_dget (val_var rfl) val_c hN.dk hN.fmo) rfl (decide_eq_false (by intro z; injection z with z; omega))) ?_
  refine sq_dputC (c_val (v_I0 (v_dget (val_var rfl) val_c hN.dk hN.fm) val_c) (c_val (val_var rfl) (c_val val_c (hN.dk.put_old (by decide) hN.fm fun kvs hk => ?_))))
  have hN1 := hN.setMany hk
  have b1 : But (S2 now tl) H (upd H now (.dK kvs)) := But.mut (.inl rfl)
  clear hk
  generalize upd H now (.dK kvs) = H1 at *
  refine sq_dputC (c_cb (va_cons (v_dget (val_var rfl) val_c hN1.dk hN1.fdp) (va_cons (val_var rfl) va_nil)) ⟨_, _, rfl, c_val (val_var rfl) (c_val val_c (hN1.dk.put_old (by decide) hN1.fdp fun kvs hk => ?_))⟩)
  have emax : (if ((h : Nat) : Int) > (dp : Int) then ((h : Nat) : Int) else (dp : Int)) = ((max dp h : Nat) : Int) := by
    by_cases hgt : ((h : Nat) : Int) > (dp : Int)
    · rw [if_pos hgt]; omega
    · rw [if_neg hgt]; omega
  rw [emax] at hk
  have hN2 := hN1.deep hk
  have b2 : But (S2 now tl) H (upd H1 now (.dK kvs)) := b1.trans (But.mut (.inl rfl))
  clear hk b1 hN1
  generalize upd H1 now (.dK kvs) = H2 at *
  obtain ⟨acc, ac1, ac2⟩ := hN2.tla
  refine sq_dropC (c_bm (v_dget (val_var rfl) val_c hN2.dk hN2.ft) ⟨_, SqL.of ac1⟩ (c_cons (c_tupV (va_cons val_c (va_cons (val_var rfl) (va_cons (val_var rfl) va_nil))) (by simp) fun pe hpe => c_nil ?_)))
  have e3 := same_new (o := .tup [V.str "ask", V.str f, V.ref na]) hpe
  have lac : acc.length ≤ 90000 := by rw [dpa_length ac2, List.length_map]; omega
  refine ⟨tl, acc, _, rfl, rfl, e3 _ _ ac1, sz_lt (by omega), ?_⟩
  have b3 := b2.trans (But.of (S := S2 now tl) e3)
  have dpe : Dp K (upd H2 pe (.tup [V.str "ask", V.str f, V.ref na])) (.ref pe) (encV (.ask f ns)) := .tup (SqT.of upd_same) (.cons (.str _) (.cons (.str _) (.cons (.tup (same_tup msk_same (same_tup b3.msk hna)) dpa_of_ints) .nil)))
  have hN4 := (hN2.same e3).tr (e3 _ _ ac1) (dpa_mono e3 ac2) dpe
  have b4 : But (S2 now tl) H (upd (upd H2 pe (.tup [V.str "ask", V.str f, V.ref na])) tl (.lst (acc ++ [.ref pe]))) := b3.trans (But.mut (.inr rfl))
  clear dpe b3 e3 hpe ac1 ac2 hN2 b2
  generalize upd (upd H2 pe (.tup [V.str "ask", V.str f, V.ref na])) tl (.lst (acc ++ [.ref pe])) = H4 at *
  have hX4 := hX.but b4
  obtain ⟨ae, te, ze, z1, z2, z3, z4⟩ := hX4.ef f xs body hF
  have hna4 := same_tup msk_same (same_tup b4.msk hna)
  refine sq_tup (v_dget (v_dget (val_var rfl) val_c hN4.dk hN4.fer) (val_var rfl) (hX4.ed.mono msk_same) z1) (same_tup msk_same z2) rfl ⟨_, _, rfl, _, _, rfl, rfl, ?_⟩
  refine sq_setC (fun dn hdn => ?_)
  have lx2 : (xs.map V.str).length = xs.length := List.length_map _
  have e15 := same_new (o := .dK []) hdn
  have hdn0 : DK (upd H4 dn (.dK [])) dn 0 (fun y => ((bind0 ([] : List Str) []) y).map V.int) := DK.new
  generalize upd H4 dn (.dK []) = H15 at *
  refine sq_forR (n := xs.length) (v_is (v_len (val_var rfl) (.inr (same_tup e15 (same_tup msk_same z3)))) (by rw [lx2])) (by omega) (fun i σ H' => ∃ (b7 : Option V), σ = [some (.ref now), some (.str f), some (.ref na), some (.int h), some (.ref te), some ze, some (.ref dn), b7] ∧ Same H4 H' ∧ DK H' dn i (fun y => (bind0 (xs.take i) (ns.take i) y).map V.int)) ?_ ?_ ?_
  · exact ⟨none, rfl, e15, by rw [List.take_zero, List.take_zero]; exact hdn0⟩
  · rintro i σ H16 hi ⟨b7, rfl, e16, hd16⟩
    have hxi : xs[i]? = some xs[i] := List.getElem?_eq_getElem hi
    obtain ⟨nv, hni⟩ : ∃ nv, ns[i]? = some nv := ⟨_, List.getElem?_eq_getElem (by omega)⟩
    refine en_dputC (c_val (v_ixT (val_var rfl) (val_var rfl) (same_tup e16 hna4) (atI_nat (v := .int nv) (by rw [List.getElem?_map, hni]; exact rfl))) (c_val (val_var rfl) (c_val (v_ixT (val_var rfl) (val_var rfl) (same_tup e16 (same_tup msk_same z3)) (atI_nat (v := .str xs[i]) (by rw [List.getElem?_map, hxi]; rfl))) (r_dput hd16 (by omega) fun kvs hk => ?_))))
    refine ⟨_, rfl, same_drop (But.mut (S := fun b => b = dn) rfl) (fun b hb => by rw [hb]; exact hdn) e16, ?_⟩
    rw [bind0_step hxi hni]
    exact hk.ext fun y => fset_map y
  · rintro σ H16 ⟨b7, rfl, e16, hd16⟩
    rw [List.take_length] at hd16
    have hns : ns.take xs.length = ns := by rw [hlen, List.take_length]
    rw [hns] at hd16
    refine c_ret (c_tup' (c_cons (c_val (val_var rfl) (c_cons (c_val (val_var rfl) (c_cons (c_tupV (va_cons (val_var rfl) (va_cons val_c (va_cons val_c va_nil))) (by simp) fun ai hai => c_nil ⟨sz_of (by simp), fun p hp => ?_⟩)))))))
    have e17 := same_new (o := .tup [V.int h, V.bl true, V.bl true]) hai
    have e18 := same_new (o := .tup [ze, V.ref dn, V.ref ai]) hp
    have e48 := e16.trans (e17.trans e18)
    have m16 := mutS_same hN4.mutS e16
    have ndn : ¬ S2 now tl dn := notS_of hN4.mutS hdn
    have hdm : DK (msk (S2 now tl) H16) dn xs.length (fun y => (bind0 xs ns y).map V.int) := by
      obtain ⟨kvs', w1, w2, w3⟩ := hd16
      exact ⟨kvs', msk_of ndn w1, w2, w3⟩
    refine q2 _ _ _ (b4.trans (But.of e48)) (hN4.same e48) ⟨p, dn, ai, ze, xs.length, true, rfl, msk_new (mutS_same m16 e17) hp, dp_mono (But.of e48).msk z4, hdm.mono (But.of (e17.trans e18)).msk, hB.mono hx4, same_tup (But.of e18).msk (msk_new m16 hai)⟩
end
end Wn
end
section
set_option Elab.async false
set_option linter.all false
set_option maxRecDepth 100000
set_option maxHeartbeats 4000000
namespace Wn
open PySem PySem.Spec PyProof.Rows L2
theorem PAsk.imp {K : PySem.W.Frag} {now tl ed : Addr} {F : Str → Option (List Str × Bs)} {evs : List (Ev Str)} {dp many most : Nat} {f : Str} {ns : List Int} {h : Nat} {H H1 : Hp} {Q Q' : VK} (b : But (S2 now tl) H H1) (i : ∀ v H', But (S2 now tl) H1 H' → Q v H' → Q' v H') (p : PAsk K now tl ed F evs dp many most f ns h H Q) : PAsk K now tl ed F evs dp many most f ns h H1 Q' :=
  ⟨fun e p' H' fn' ve b' n d => i _ _ b' (p.1 e p' H' fn' ve (b.trans b') n d), fun e =>
    let ⟨xs, body, h1, h2, h3, h4, k⟩ := p.2 e
    ⟨xs, body, h1, h2, h3, h4, fun v' H' fn' b' n a => i _ _ b' (k v' H' fn' (b.trans b') n a)⟩⟩
def ApplyPost (K : PySem.W.Frag) (now tl ed : Addr) (F : Str → Option (List Str × Bs)) (evs : List (Ev Str)) (dp many most : Nat) (ht : Nat) (la : Bool) (ns : List Int) (H : Hp) (Q : VK) : Bs → Prop
  | .tell _ => ∃ m, ns = [m] ∧ ∀ H' fn', But (S2 now tl) H H' → NB K H' now tl ed fn' (evs ++ [.tell m]) dp many most .non → Q (.int m) H'
  | .op l _ _ => ∃ m n, ns = [m, n] ∧ ∀ H', Same H H' → Q (.int (opv l m n)) H'
  | .ask f as => PAsk K now tl ed F evs dp many most f ns (if la then ht else ht + 1) H Q
  | _ => False
def spApply (K : PySem.W.Frag) : Sp := fun vs H Q _ => ∃ (now tl ed : Addr) (ge : Str → Option V) (F : Str → Option (List Str × Bs)) (fn : Str → Option V) (evs : List (Ev Str)) (dp many most : Nat) (t : Bs) (vt : V) (ai da : Addr) (ht : Nat) (la xb : Bool) (ns : List Int), vs = [.ref now, vt, .ref ai, .ref da] ∧ NB K H now tl ed fn evs dp many most .non ∧ FX K now tl ed ge F H ∧ Dp K (msk (S2 now tl) H) vt (encB t) ∧ SqT K (msk (S2 now tl) H) ai [.int (ht : Nat), .bl la, .bl xb] ∧ SqT K (msk (S2 now tl) H) da (ns.map .int) ∧ evs.length ≤ 90000 ∧
  ApplyPost K now tl ed F evs dp many most ht la ns H Q t
section
variable {P : Program} {w : World} {K : PySem.W.Frag} {mg : Str → Option Value} {base : Heap} {ad : Nat → Addr} {fd : Nat → FuncData} {cL cT cN cB : Addr}
theorem ok_Lapply (T : Tx K mg ad fd cL cT cN cB) : FnOk P w K mg base CX0 2 (ad 36) (fd 36) ["now", "term", "info", "numbers"] (spApply K) := by
  have G_Lasked := ok_Lasked (P := P) (w := w) (base := base) T
  refine T.F_Lapply.ok sc_Lapply (fun vs H Q E h => ?_) (fun cdv A outer s H vs Q E hr h => ?_)
  · obtain ⟨now, tl, ed, ge, F, fn, evs, dp, many, most, t, vt, ai, da, ht, la, xb, ns, rfl, _⟩ := h
    rfl
  obtain ⟨now, tl, ed, ge, F, fn, evs, dp, many, most, t, vt, ai, da, ht, la, xb, ns, rfl, hN, hX, hv, hai, hda, hev, q⟩ := h
  refine ⟨_, (pss_cons (ps_if (pt_cmpR op_eq (pe_ix ix_tup (pv 1) pe_int (fun _ _ => rfl)) pe_str (nomark _)) (pss_cons (ps_expr (pe_bm PySem.F.plainAttrs_list PySem.F.slot_list_append PySem.F.type_list_append mt_append (pe_dget (hu_of hr) (pv 0) pe_str (fun _ _ => rfl)) (pa_cons (pe_tup (pa_cons pe_str (pa_cons (pe_ix ix_tup (pv 3) pe_int (fun _ _ => rfl)) pa_nil))) pa_nil)))
    (pss_one (ps_ret (pe_ix ix_tup (pv 3) pe_int (fun _ _ => rfl))))) pss_nil)
    (pss_cons (ps_if (pt_cmpR op_eq (pe_ix ix_tup (pv 1) pe_int (fun _ _ => rfl)) pe_str (nomark _)) (pss_one (ps_ret (pe_op op_mod (pe_op op_add (pe_ix ix_tup (pv 3) pe_int (fun _ _ => rfl)) (pe_ix ix_tup (pv 3) pe_int (fun _ _ => rfl))) pe_int))) pss_nil)
    (pss_cons (ps_if (pt_cmpR op_eq (pe_ix ix_tup (pv 1) pe_int (fun _ _ => rfl)) pe_str (nomark _)) (pss_one (ps_ret (pe_op op_mod (pe_op op_sub (pe_ix ix_tup (pv 3) pe_int (fun _ _ => rfl)) (pe_ix ix_tup (pv 3) pe_int (fun _ _ => rfl))) pe_int))) pss_nil)
    (pss_cons (ps_dput (hu_of hr) (pv 0) pe_str (pe_op op_add (pe_dget (hu_of hr) (pv 0) pe_str (fun _ _ => rfl)) (pe_callTy (T := "int") call_int1 (by rfl) T.z_int (by decide +kernel) (pa_cons (pe_not (pe_ix ix_tup (pv 2) pe_int (fun _ _ => rfl))) pa_nil))) rfl)
    (pss_one (ps_ret (pe_call G_Lasked (hr.mono (by first | decide | omega)) (by rfl) T.m_Lasked T.F_Lasked.kp (b_Lasked T) .nil pass0 (pa_cons (pv 0) (pa_cons (pe_ix ix_tup (pv 1) pe_int (fun _ _ => rfl)) (pa_cons (pv 3) (pa_cons (pe_op op_add (pe_ix ix_tup (pv 2) pe_int (fun _ _ => rfl)) (pe_callTy (T := "int") call_int1 (by rfl) T.z_int (by decide +kernel) (pa_cons (pe_not (pe_ix ix_tup (pv 2) pe_int (fun _ _ => rfl))) pa_nil))) pa_nil))))))))))), ?_⟩
  obtain ⟨ta, trest, rfl, hS, hp⟩ := bb_parts (dp_mono msk_same hv)
  have hda0 := same_tup msk_same hda
  have hai0 := same_tup msk_same hai
  cases t with
  | num _ => exact q.elim
  | nm _ => exact q.elim
  | lt _ _ _ => exact q.elim
  | ite _ _ _ => exact q.elim
  | tell b1 =>
    obtain ⟨m, rfl, q⟩ := q
    replace hS : SqT K _ ta (V.str ("tell" : Str) :: trest) := hS
    refine st_seq (st_yes (a_eq (v_ixT (val_var rfl) val_c hS (atI_nat (j := 0) rfl)) val_c rfl (by decide +kernel)) ?_)
    obtain ⟨acc, ac1, ac2⟩ := hN.tla
    refine sq_dropC (c_bm (v_dget (val_var rfl) val_c hN.dk hN.ft) ⟨_, SqL.of ac1⟩ (c_cons (c_tupV (va_cons val_c (va_cons (v_ixT (val_var rfl) val_c hda0 rfl) va_nil)) (by simp) fun pe hpe => c_nil ?_)))
    have e3 := same_new (o := .tup [V.str "tell", V.int m]) hpe
    have lac : acc.length ≤ 90000 := by rw [dpa_length ac2, List.length_map]; omega
    refine ⟨tl, acc, _, rfl, rfl, e3 _ _ ac1, sz_lt (by omega), ?_⟩
    have hN4 := (hN.same e3).tr (ev := .tell m) (e3 _ _ ac1) (dpa_mono e3 ac2) (pe := .ref pe) (.tup (SqT.of upd_same) (.cons (.str _) (.cons (.int _) .nil)))
    have b4 : But (S2 now tl) H (upd (upd H pe (.tup [V.str "tell", V.int m])) tl (.lst (acc ++ [.ref pe]))) := (But.of e3).trans (But.mut (.inr rfl))
    exact st_ret (v_ixT (val_var rfl) val_c (same_tup msk_same (same_tup b4.msk hda)) rfl) (q _ _ b4 hN4)
  | op l b1 b2 =>
    obtain ⟨m, n, rfl, q⟩ := q
    replace hS : SqT K _ ta (V.str (kwO l) :: trest) := hS
    refine sq_no (a_eq (v_ixT (val_var rfl) val_c hS (atI_nat (j := 0) rfl)) val_c rfl (by cases l <;> decide +kernel)) ?_
    have p0 : (0 : Int) < 1000 := by decide
    cases l with
    | false =>
      refine st_seq (st_yes (a_eq (v_ixT (val_var rfl) val_c hS (atI_nat (j := 0) rfl)) val_c rfl (by decide +kernel)) ?_)
      exact st_ret (v_I (v_I0 (v_ixT (val_var rfl) val_c hda0 rfl) (v_ixT (val_var rfl) val_c hda0 rfl)) val_c p0) (q H (Same.refl H))
    | true =>
      refine sq_no (a_eq (v_ixT (val_var rfl) val_c hS (atI_nat (j := 0) rfl)) val_c rfl (by decide +kernel)) ?_
      refine st_seq (st_yes (a_eq (v_ixT (val_var rfl) val_c hS (atI_nat (j := 0) rfl)) val_c rfl (by decide +kernel)) ?_)
      exact st_ret (v_I (v_I0 (v_ixT (val_var rfl) val_c hda0 rfl) (v_ixT (val_var rfl) val_c hda0 rfl)) val_c p0) (q H (Same.refl H))
  | ask f as =>
    obtain ⟨tt, ys, rfl, h1, h2⟩ := hp
    replace hS : SqT K _ ta (V.str ("ask" : Str) :: [.str f, .ref tt]) := hS
    refine sq_no (a_eq (v_ixT (val_var rfl) val_c hS (atI_nat (j := 0) rfl)) val_c rfl (by decide +kernel)) ?_
    refine sq_no (a_eq (v_ixT (val_var rfl) val_c hS (atI_nat (j := 0) rfl)) val_c rfl (by decide +kernel)) ?_
    refine sq_no (a_eq (v_ixT (val_var rfl) val_c hS (atI_nat (j := 0) rfl)) val_c rfl (by decide +kernel)) ?_
    obtain ⟨ml, hml⟩ := hN.fl
    refine sq_dputC (c_val (v_I0 (v_dget (val_var rfl) val_c hN.dk hml) (v_int_bl (v_not (v_ixT (val_var rfl) val_c hai0 rfl)))) (c_val (val_var rfl) (c_val val_c (hN.dk.put_old (by decide) hml fun kvs hk => ?_))))
    have hN1 := hN.left hk
    have b1 : But (S2 now tl) H (upd H now (.dK kvs)) := But.mut (.inl rfl)
    generalize upd H now (.dK kvs) = H1 at *
    have hS1 := but_tup b1 hN.mutS hS
    have hai1 := same_tup b1.msk hai
    have eh : V.int ((ht : Int) + (if (!la) = true then 1 else 0)) = V.int ((if la then ht else ht + 1 : Nat) : Int) := by
      cases la with
      | true => simp
      | false => simp
    refine c_ret (c_call (vs := [.ref now, .str f, .ref da, .int ((if la then ht else ht + 1 : Nat) : Int)]) (va_cons (val_var rfl) (va_cons (v_ixT (val_var rfl) val_c hS1 (atI_nat (j := 1) rfl)) (va_cons (val_var rfl) (va_cons (v_is (v_I0 (v_ixT (val_var rfl) val_c (same_tup msk_same hai1) rfl) (v_int_bl (v_not (v_ixT (val_var rfl) val_c (same_tup msk_same hai1) rfl)))) eh) va_nil)))) ?_)
    exact ⟨now, tl, ed, ge, F, _, evs, dp, many, most, f, da, ns, _, rfl, hN1, hX.but b1, same_tup b1.msk hda, hev, PAsk.imp b1 (fun _ _ _ z => z) q⟩
end
end Wn
end
section
set_option Elab.async false
set_option linter.all false
set_option maxRecDepth 100000
set_option maxHeartbeats 4000000
namespace Wn
open PySem PySem.Spec PyProof.Rows L2
def numV : Option Int → V
  | some n => .int n
  | none => .non
/-- what a number put in leads to -/
def PPut (K : PySem.W.Frag) (now tl ed : Addr) (F : Str → Option (List Str × Bs)) (evs : List (Ev Str)) (dp many most : Nat) (rest0 : List (Fr Str)) (H : Hp) (Q : VK) : Put Str → Prop
  | .go ev a rest' => ∀ p H' fn' va vr, But (S2 now tl) H H' → NB K H' now tl ed fn' (evs ++ ev) dp many most .non → SqT K H' p [va, vr] → AV K (msk (S2 now tl) H') a va → FV K (msk (S2 now tl) H') rest' vr → Q (.ref p) H'
  | .ask f ns h => PAsk K now tl ed F evs dp many most f ns h H (fun va H1 => ∀ p vr, H1 p = none → FV K (msk (S2 now tl) H1) rest0 vr → Q (.ref p) (upd H1 p (.tup [va, vr])))
def spPut (K : PySem.W.Frag) : Sp := fun vs H Q _ => ∃ (now tl ed : Addr) (ge : Str → Option V) (F : Str → Option (List Str × Bs)) (fn : Str → Option V) (evs : List (Ev Str)) (dp many most : Nat) (num : Option Int) (f : Fr Str) (rest : List (Fr Str)) (vf : V) (pt : Put Str), vs = [.ref now, numV num, vf] ∧ NB K H now tl ed fn evs dp many most .non ∧ FX K now tl ed ge F H ∧ FV K (msk (S2 now tl) H) (f :: rest) vf ∧ evs.length ≤ 90000 ∧ putB num f.t f.r f.ht f.la f.dn rest = some pt ∧
  PPut K now tl ed F evs dp many most rest H Q pt
/-- the number is one of those that are done -/
theorem put_done {K : PySem.W.Frag} {S : Addr → Prop} {t2 : TS} {D : Ends} {H : Hp} {v0 v2 v3 v4 v5 : V} {da : Addr} {num : Option Int} {dn : List Int} (mS : MutS S H) (hda : SqT K (msk S H) da (dn.map .int)) (hl : dn.length ≤ 1000)
    (k : ∀ da' H1, Same H H1 → SqT K (msk S H1) da' ((dn ++ num.toList).map .int) → t2 D [some v0, some (numV num), some v2, some v3, some v4, some v5, some (.ref da'), none, none] H1) :
    tSeq (tIfS (tTest (tOp (fun x y H Q => y = .non ∧ Q (.bl (!decide (x = .non))) H) (tVar 1) (tC .non))) (tAsg (tOp (rCatA K) (tVar 6) (tTup (tCons (tVar 1) tNil))) (gName 6)) tNext) t2 D [some v0, some (numV num), some v2, some v3, some v4, some v5, some (.ref da), none, none] H := by
  cases num with
  | none =>
    refine sq_no (a_notN (val_var rfl) (by decide +kernel)) ?_
    exact k da H (Same.refl H) (by simpa using hda)
  | some n =>
    refine sq_yes (a_notN (val_var rfl) (show (!decide (V.int n = V.non)) = true by rw [decide_eq_false (by intro z; cases z)]; rfl)) ?_
    refine c_set (c_opL (c_val (val_var rfl) (c_tupV (va_cons (val_var rfl) va_nil) (by simp) fun p1 hp1 => ?_)))
    have e1 := same_new (o := .tup [V.int n]) hp1
    refine ⟨da, p1, dn.map .int, [V.int n], rfl, rfl, same_tup e1 (same_tup msk_same hda), SqT.of upd_same, sz_of (by simp; omega), fun e => ?_, fun _ e => (by cases e), fun _ _ p hp => ?_⟩
    · refine k p1 _ e1 ?_
      have hdn : dn = [] := by simpa using e
      subst hdn
      exact msk_new mS hp1
    · have e2 := same_new (o := .tup (dn.map V.int ++ [V.int n])) hp
      refine k p _ (e1.trans e2) ?_
      have := msk_new (K := K) (xs := dn.map V.int ++ [V.int n]) (mutS_same mS e1) hp
      rw [List.map_append]
      exact this
section
variable {P : Program} {w : World} {K : PySem.W.Frag} {mg : Str → Option Value} {base : Heap} {ad : Nat → Addr} {fd : Nat → FuncData} {cL cT cN cB : Addr}
/-- behind let and if -/
theorem put_tail (T : Tx K mg ad fd cL cT cN cB) {now tl ed : Addr} {ge : Str → Option V} {F : Str → Option (List Str × Bs)} {fn : Str → Option V} {evs : List (Ev Str)} {dp many most : Nat} {f : Fr Str} {rest : List (Fr Str)} {ta dd ai da : Addr} {vr vn : V} {n : Nat} {xb : Bool} {dn' : List Int} {pt : Put Str} {H : Hp} {Q : VK}
    (hN : NB K H now tl ed fn evs dp many most .non) (hX : FX K now tl ed ge F H) (hv : Dp K (msk (S2 now tl) H) (.ref ta) (encB f.t)) (hd : DK (msk (S2 now tl) H) dd n (fun y => (f.r y).map V.int)) (hB : BOk n f.t) (hai : SqT K (msk (S2 now tl) H) ai [.int (f.ht : Nat), .bl f.la, .bl xb]) (hda : SqT K (msk (S2 now tl) H) da (dn'.map .int)) (hfv : FV K (msk (S2 now tl) H) rest vr) (hev : evs.length ≤ 90000) (hl : dn'.length ≤ 1000)
    (q : PPut K now tl ed F evs dp many most rest H Q pt)
    (hon : (∃ b, (parts f.t)[dn'.length]? = some b ∧ pt = .go [] (.foc b f.r f.ht false) (⟨f.t, f.r, f.ht, f.la, dn'⟩ :: rest)) ∨ ((parts f.t).length ≤ dn'.length ∧ ((∃ b m, f.t = .tell b ∧ dn' = [m] ∧ pt = .go [.tell m] (.val m) rest) ∨ (∃ l a b m k, f.t = .op l a b ∧ dn' = [m, k] ∧ pt = .go [] (.val (opv l m k)) rest) ∨ ∃ g as, f.t = .ask g as ∧ pt = .ask g dn' (if f.la then f.ht else f.ht + 1)))) :
    tSeq (tAsg (tCall (spParts2 K) [] E0 (tCons (tVar 3) tNil)) (gName 8))
      (tSeq (tIfS (tTest (tOp (rI0 fun i j => V.bl (decide (i < j))) (tCB (rLenQ K) (tCons (tVar 6) tNil)) (tCB (rLenQ K) (tCons (tVar 8) tNil)))) (tRet (tTup (tCons (tTup (tCons (tOp (rIxT K) (tVar 8) (tCB (rLenQ K) (tCons (tVar 6) tNil))) (tCons (tVar 4) (tCons (tTup (tCons (tOp (rIxT K) (tVar 5) (tC (.int 0))) (tCons (tC (.bl false)) (tCons (tC (.bl false)) tNil)))) tNil)))) (tCons (tTup (tCons (tVar 3) (tCons (tVar 4) (tCons (tVar 5) (tCons (tVar 6) (tCons (tVar 2) tNil)))))) tNil)))) tNext)
        (tRet (tTup (tCons (tCall (spApply K) [] E0 (tCons (tVar 0) (tCons (tVar 3) (tCons (tVar 5) (tCons (tVar 6) tNil))))) (tCons (tVar 2) tNil)))))
      { nx := fun x H' => Q V.non H', rt := Q } [some (.ref now), some vn, some vr, some (.ref ta), some (.ref dd), some (.ref ai), some (.ref da), none, none] H := by
  refine sq_setC (c_call (va_cons (val_var rfl) va_nil) ⟨_, f.t, rfl, dp_mono msk_same hv, fun pp H1 ys e1 hpp hys => ?_⟩)
  have g1 := (But.of (S := S2 now tl) e1).msk
  have hN1 := hN.same e1
  have hda1 := same_tup msk_same (same_tup g1 hda)
  have lda : (dn'.map V.int).length = dn'.length := List.length_map _
  have lys : ys.length = (parts f.t).length := by rw [dpa_length hys, encBs_len]
  rcases hon with ⟨b, hb, rfl⟩ | ⟨hle, hon⟩
  · have hlt : dn'.length < (parts f.t).length := (List.getElem?_eq_some_iff.mp hb).1
    refine st_seq (st_yes (a_I0 (b := true) (v_is (v_len (val_var rfl) (.inr hda1)) (by rw [lda])) (v_len (val_var rfl) (.inr hpp)) (by show V.bl (decide ((dn'.length : Int) < (ys.length : Int))) = _; rw [lys, decide_eq_true (by omega)])) ?_)
    obtain ⟨y, hy1, hy2⟩ := dpa_get hys (encBs_get hb)
    refine c_ret (c_tup' (c_cons (c_tup' (c_cons (c_val (v_ixT (val_var rfl) (v_is (v_len (val_var rfl) (.inr hda1)) (by rw [lda])) hpp (atI_nat hy1)) (c_cons (c_val (val_var rfl) (c_cons (c_tupV (va_cons (v_ixT (val_var rfl) val_c (same_tup msk_same (same_tup g1 hai)) rfl) (va_cons val_c (va_cons val_c va_nil))) (by simp) fun ai2 hai2 => c_nil ⟨sz_of (by simp), fun at2 hat2 => c_cons ?_⟩)))))))))
    have e5 := same_new (o := .tup [V.int f.ht, V.bl false, V.bl false]) hai2
    have e6 := same_new (o := .tup [y, V.ref dd, V.ref ai2]) hat2
    refine c_tupV (va_cons (val_var rfl) (va_cons (val_var rfl) (va_cons (val_var rfl) (va_cons (val_var rfl) (va_cons (val_var rfl) va_nil))))) (by simp) fun fr hfr => c_nil ⟨sz_of (by simp), fun px hpx => ?_⟩
    have e7 := same_new (o := .tup [V.ref ta, V.ref dd, V.ref ai, V.ref da, vr]) hfr
    have e8 := same_new (o := .tup [V.ref at2, V.ref fr]) hpx
    have m1 := hN1.mutS
    have e58 := e5.trans (e6.trans (e7.trans e8))
    have g18 := (But.of (S := S2 now tl) (e1.trans e58)).msk
    have g8 := (But.of (S := S2 now tl) e8).msk
    refine q px _ fn _ _ (But.of (e1.trans e58)) (by rw [List.append_nil]; exact hN1.same e58) (SqT.of upd_same) ⟨at2, dd, ai2, y, n, false, rfl, same_tup (But.of (e7.trans e8)).msk (msk_new (mutS_same m1 e5) hat2), ?_, hd.mono g18, hB.part (List.mem_of_getElem? hb), same_tup (But.of (e6.trans (e7.trans e8))).msk (msk_new m1 hai2)⟩
      ⟨fr, dd, ai, da, _, vr, n, xb, rfl, same_tup g8 (msk_new (mutS_same m1 (e5.trans e6)) hfr), dp_mono g18 hv, hd.mono g18, hB, same_tup g18 hai, same_tup g18 hda, hl, hfv.same g18⟩
    exact dp_mono (But.of (S := S2 now tl) e58).msk (msk_dp m1 (noL_B _) hy2)
  · refine sq_no (a_I0 (b := false) (v_is (v_len (val_var rfl) (.inr hda1)) (by rw [lda])) (v_len (val_var rfl) (.inr hpp)) (by show V.bl (decide ((dn'.length : Int) < (ys.length : Int))) = _; rw [lys, decide_eq_false (by omega)])) ?_
    refine c_ret (c_tup' (c_cons (c_call (va_cons (val_var rfl) (va_cons (val_var rfl) (va_cons (val_var rfl) (va_cons (val_var rfl) va_nil)))) ⟨now, tl, ed, ge, F, fn, evs, dp, many, most, f.t, _, ai, da, f.ht, f.la, xb, dn', rfl, hN1, hX.but (But.of e1), dp_mono g1 hv, same_tup g1 hai, same_tup g1 hda, hev, ?_⟩)))
    rcases hon with ⟨b, m, ht, rfl, rfl⟩ | ⟨l, a, b, m, k, ht, rfl, rfl⟩ | ⟨g, as, ht, rfl⟩
    · rw [ht]
      refine ⟨m, rfl, fun H' fn' b2 hN2 => c_cons (c_val (val_var rfl) (c_nil ⟨sz_of (by simp), fun p hp => ?_⟩))⟩
      have e3 := same_new (o := .tup [V.int m, vr]) hp
      have b13 := (But.of (S := S2 now tl) e1).trans (b2.trans (But.of e3))
      exact q p _ fn' _ _ b13 (hN2.same e3) (SqT.of upd_same) rfl (hfv.same b13.msk)
    · rw [ht]
      refine ⟨m, k, rfl, fun H' e2 => c_cons (c_val (val_var rfl) (c_nil ⟨sz_of (by simp), fun p hp => ?_⟩))⟩
      have e3 := same_new (o := .tup [V.int (opv l m k), vr]) hp
      have e13 := e1.trans (e2.trans e3)
      exact q p _ fn _ _ (But.of e13) (by rw [List.append_nil]; exact hN.same e13) (SqT.of upd_same) rfl (hfv.same (But.of e13).msk)
    · rw [ht]
      unfold PPut at q
      unfold ApplyPost
      refine PAsk.imp (But.of e1) (fun v H' b' z => ?_) q
      refine c_cons (c_val (val_var rfl) (c_nil ⟨sz_of (by simp), fun p hp => ?_⟩))
      exact z p vr hp (hfv.same (g1.trans b'.msk))
theorem ok_Lput_in (T : Tx K mg ad fd cL cT cN cB) : FnOk P w K mg base CX0 3 (ad 37) (fd 37) ["now", "number", "rest"] (spPut K) := by
  have G_Lparts := ok_Lparts (P := P) (w := w) (base := base) T
  have G_Lapply := ok_Lapply (P := P) (w := w) (base := base) T
  refine T.F_Lput_in.ok sc_Lput_in (fun vs H Q E h => ?_) (fun cdv A outer s H vs Q E hr h => ?_)
  · obtain ⟨now, tl, ed, ge, F, fn, evs, dp, many, most, num, f, rest, vf, pt, rfl, _⟩ := h
    rfl
  obtain ⟨now, tl, ed, ge, F, fn, evs, dp, many, most, num, ⟨t, r, ht, la, dn⟩, rest, vf, pt, rfl, hN, hX, hF, hev, hput, q⟩ := h
  obtain ⟨a, dd, ai, da, vt, vr, n, xb, rfl, hS, hv, hd, hB, hai, hda, hdl, hfv⟩ := hF
  refine ⟨_, (pss_cons (ps_asg (pv 2) (pg_tup (by rfl) (pgs_cons (pg_name (i := 3) sc_Lput_in.nd rfl (Or.inl rfl)) (pgs_cons (pg_name (i := 4) sc_Lput_in.nd rfl (Or.inl rfl)) (pgs_cons (pg_name (i := 5) sc_Lput_in.nd rfl (Or.inl rfl)) (pgs_cons (pg_name (i := 6) sc_Lput_in.nd rfl (Or.inl rfl)) (pgs_cons (pg_name (i := 2) sc_Lput_in.nd rfl (Or.inl rfl)) pgs_nil)))))))
    (pss_cons (ps_if (pt_cmpR op_notN (pv 1) pe_non (nomark _)) (pss_one (ps_set (i := 6) sc_Lput_in.nd rfl (Or.inl rfl) (pe_op op_catA (pv 6) (pe_tup (pa_cons (pv 1) pa_nil))))) pss_nil)
    (pss_cons (ps_if (PW.pt (pw_and (pt_cmpR op_eq (pe_ix ix_tup (pv 3) pe_int (fun _ _ => rfl)) pe_str (nomark _)) (pw_and1 (pt_cmpR op_eq (pe_callB (id := "len") call_len_seq (by rfl) T.z_len (by decide +kernel) (pa_cons (pv 6) pa_nil)) pe_int (nomark _))))) (pss_cons (ps_set (i := 7) sc_Lput_in.nd rfl (Or.inl rfl) (pe_callTy (T := "dict") call_dictOf (by rfl) T.z_dict (by decide +kernel) (pa_cons (pv 4) pa_nil)))
    (pss_cons (ps_dput (hu_of hr) (pv 7) (pe_ix ix_tup (pv 3) pe_int (fun _ _ => rfl)) (pv 1) rfl)
    (pss_one (ps_ret (pe_tup (pa_cons (pe_tup (pa_cons (pe_ix ix_tup (pv 3) pe_int (fun _ _ => rfl)) (pa_cons (pv 7) (pa_cons (pv 5) pa_nil)))) (pa_cons (pv 2) pa_nil))))))) pss_nil)
    (pss_cons (ps_if (pt_cmpR op_eq (pe_ix ix_tup (pv 3) pe_int (fun _ _ => rfl)) pe_str (nomark _)) (pss_cons (ps_dput (hu_of hr) (pv 0) pe_str (pe_op op_add (pe_dget (hu_of hr) (pv 0) pe_str (fun _ _ => rfl)) (pe_callTy (T := "int") call_int1 (by rfl) T.z_int (by decide +kernel) (pa_cons (pe_not (pe_ix ix_tup (pv 5) pe_int (fun _ _ => rfl))) pa_nil))) rfl)
    (pss_one (ps_ret (pe_tup (pa_cons (pe_tup (pa_cons (pe_ix ix_tup (pv 3) (pe_op op_add pe_int (pe_callTy (T := "int") call_int1 (by rfl) T.z_int (by decide +kernel) (pa_cons (pe_cmpR op_eq (pv 1) pe_int (nomark _)) pa_nil))) (fun _ _ => rfl)) (pa_cons (pv 4) (pa_cons (pe_tup (pa_cons (pe_ix ix_tup (pv 5) pe_int (fun _ _ => rfl)) (pa_cons (pe_ix ix_tup (pv 5) pe_int (fun _ _ => rfl)) (pa_cons pe_bl pa_nil)))) pa_nil)))) (pa_cons (pv 2) pa_nil)))))) pss_nil)
    (pss_cons (ps_set (i := 8) sc_Lput_in.nd rfl (Or.inl rfl) (pe_call G_Lparts (hr.mono (by first | decide | omega)) (by rfl) T.m_Lparts T.F_Lparts.kp (b_Lparts T) .nil pass0 (pa_cons (pv 3) pa_nil)))
    (pss_cons (ps_if (pt_cmpR op_lt (pe_callB (id := "len") call_len_seq (by rfl) T.z_len (by decide +kernel) (pa_cons (pv 6) pa_nil)) (pe_callB (id := "len") call_len_seq (by rfl) T.z_len (by decide +kernel) (pa_cons (pv 8) pa_nil)) (nomark _)) (pss_one (ps_ret (pe_tup (pa_cons (pe_tup (pa_cons (pe_ix ix_tup (pv 8) (pe_callB (id := "len") call_len_seq (by rfl) T.z_len (by decide +kernel) (pa_cons (pv 6) pa_nil)) (fun _ _ => rfl)) (pa_cons (pv 4) (pa_cons (pe_tup (pa_cons (pe_ix ix_tup (pv 5) pe_int (fun _ _ => rfl)) (pa_cons pe_bl (pa_cons pe_bl pa_nil)))) pa_nil)))) (pa_cons (pe_tup (pa_cons (pv 3) (pa_cons (pv 4) (pa_cons (pv 5) (pa_cons (pv 6) (pa_cons (pv 2) pa_nil)))))) pa_nil))))) pss_nil)
    (pss_one (ps_ret (pe_tup (pa_cons (pe_call G_Lapply (hr.mono (by first | decide | omega)) (by rfl) T.m_Lapply T.F_Lapply.kp (b_Lapply T) .nil pass0 (pa_cons (pv 0) (pa_cons (pv 3) (pa_cons (pv 5) (pa_cons (pv 6) pa_nil))))) (pa_cons (pv 2) pa_nil))))))))))), ?_⟩
  refine sq_tup (val_var rfl) (same_tup msk_same hS) rfl ⟨_, _, rfl, _, _, rfl, _, _, rfl, _, _, rfl, _, _, rfl, rfl, ?_⟩
  refine put_done hN.mutS hda hdl fun da' H1 e1 hda' => ?_
  have g1 := (But.of (S := S2 now tl) e1).msk
  have hN1 := hN.same e1
  have hX1 := hX.but (But.of e1)
  have hv1 := dp_mono g1 hv
  have hd1 := hd.mono g1
  have hai1 := same_tup g1 hai
  have hfv1 := hfv.same g1
  have q1 : PPut K now tl ed F evs dp many most rest H1 Q pt := by
    cases pt with
    | go ev a rest' => exact fun p H' fn' va vr b n s av fv => q p H' fn' va vr ((But.of e1).trans b) n s av fv
    | ask f ns h =>
      unfold PPut at q ⊢
      exact PAsk.imp (But.of e1) (fun v H' b z => z) q
  obtain ⟨ta, trest, rfl, hS1, hp⟩ := bb_parts (dp_mono msk_same hv1)
  have hda1 := same_tup msk_same hda'
  have lda : ((dn ++ num.toList).map V.int).length = (dn ++ num.toList).length := List.length_map _
  clear hS q hv hd hai hfv hN hX
  cases t with
  | num _ => cases hput
  | nm _ => cases hput
  | lt x b1 b2 =>
    obtain ⟨y1, y2, rfl, hy⟩ := hp
    replace hS1 : SqT K _ ta (V.str ("let" : Str) :: [.str x, y1, y2]) := hS1
    simp only [putB] at hput
    cases num with
    | none => cases hput
    | some nv =>
    cases dn with
    | cons _ _ => cases hput
    | nil =>
    cases hput
    refine st_seq (st_yes (a_and (b1 := true) (b2 := true) (a_eq (v_ixT (val_var rfl) val_c hS1 (atI_nat (j := 0) rfl)) val_c rfl (by decide +kernel)) (fun _ => a_eq (v_len (val_var rfl) (.inr hda1)) val_c rfl (decide_eq_true rfl))) ?_)
    refine sq_setC (c_dictOf (val_var rfl) (hd1.mono msk_same) fun pd kvs hpd hk => ?_)
    have e2 := same_new (o := .dK kvs) hpd
    refine sq_dput (val_var rfl) (val_var rfl) (v_ixT (val_var rfl) val_c (same_tup e2 hS1) (atI_nat (j := 1) rfl)) hk (by have := hB.nb; omega) fun kvs2 hk2 => ?_
    rw [upd_upd] at hk2 ⊢
    have e2' := same_new (o := .dK kvs2) hpd
    refine c_ret (c_tup' (c_cons (c_tupV (va_cons (v_ixT (val_var rfl) val_c (same_tup e2' hS1) (atI_nat (j := 3) rfl)) (va_cons (val_var rfl) (va_cons (val_var rfl) va_nil))) (by simp) fun pa hpa => c_cons (c_val (val_var rfl) (c_nil ⟨sz_of (by simp), fun p hp => ?_⟩)))))
    have e3 := same_new (o := .tup [y2, V.ref pd, V.ref ai]) hpa
    have e4 := same_new (o := .tup [V.ref pa, vr]) hp
    have e24 := e2'.trans (e3.trans e4)
    have g24 := (But.of (S := S2 now tl) e24).msk
    have hkm : DK (msk (S2 now tl) (upd H1 pd (.dK kvs2))) pd (n + 1) (fun y => (fset r x nv y).map V.int) := by
      obtain ⟨kv', w1, w2, w3⟩ := hk2
      exact ⟨kv', msk_of (notS_of hN1.mutS hpd) w1, w2, fun y => (w3 y).trans (fset_map y)⟩
    obtain ⟨_, _, hyy, _, hy'⟩ := dpa_cons hy
    cases hyy
    obtain ⟨_, _, hyy, hy2, _⟩ := dpa_cons hy'
    cases hyy
    exact q1 p _ fn _ _ (But.of e24) (by rw [List.append_nil]; exact hN1.same e24) (SqT.of upd_same) ⟨pa, pd, ai, y2, n + 1, xb, rfl, same_tup (But.of e4).msk (msk_new (mutS_same hN1.mutS e2') hpa), dp_mono g24 (msk_dp hN1.mutS (noL_B _) hy2), hkm.mono (But.of (e3.trans e4)).msk, hB.body, same_tup g24 hai1⟩ (hfv1.same g24)
  | ite b1 b2 b3 =>
    obtain ⟨y1, y2, y3, rfl, hy⟩ := hp
    replace hS1 : SqT K _ ta (V.str ("if" : Str) :: [y1, y2, y3]) := hS1
    simp only [putB] at hput
    cases num with
    | none => cases hput
    | some nv =>
    cases hput
    refine sq_no (a_and (b1 := false) (b2 := false) (a_eq (v_ixT (val_var rfl) val_c hS1 (atI_nat (j := 0) rfl)) val_c rfl (by decide +kernel)) (fun z => by cases z)) ?_
    refine st_seq (st_yes (a_eq (v_ixT (val_var rfl) val_c hS1 (atI_nat (j := 0) rfl)) val_c rfl (by decide +kernel)) ?_)
    obtain ⟨ml, hml⟩ := hN1.fl
    refine sq_dputC (c_val (v_I0 (v_dget (val_var rfl) val_c hN1.dk hml) (v_int_bl (v_not (v_ixT (val_var rfl) val_c (same_tup msk_same hai1) rfl)))) (c_val (val_var rfl) (c_val val_c (hN1.dk.put_old (by decide) hml fun kvs hk => ?_))))
    have hN2 := hN1.left hk
    have b2' : But (S2 now tl) H1 (upd H1 now (.dK kvs)) := But.mut (.inl rfl)
    have hS2 := but_tup b2' hN1.mutS hS1
    have hai2 := same_tup b2'.msk hai1
    obtain ⟨_, _, hyy, _, hy'⟩ := dpa_cons hy
    cases hyy
    obtain ⟨_, _, hyy, hy2, hy''⟩ := dpa_cons hy'
    cases hyy
    obtain ⟨_, _, hyy, hy3, _⟩ := dpa_cons hy''
    cases hyy
    have k2 := but_dp b2' hN1.mutS (noL_B _) hy2
    have k3 := but_dp b2' hN1.mutS (noL_B _) hy3
    clear hk
    generalize upd H1 now (.dK kvs) = H2 at *
    obtain ⟨yb, hyb, hdb⟩ : ∃ yb, atI [V.str ("if" : Str), y1, y2, y3] (2 + (if decide (V.int nv = V.int 0) = true then 1 else 0)) = some yb ∧ Dp K H2 yb (encB (if nv = 0 then b3 else b2)) := by
      by_cases h0 : nv = 0
      · rw [decide_eq_true (by rw [h0]), if_pos h0]
        exact ⟨y3, rfl, k3⟩
      · rw [decide_eq_false (by intro z; injection z with z; exact h0 z), if_neg h0]
        exact ⟨y2, rfl, k2⟩
    refine c_ret (c_tup' (c_cons (c_tup' (c_cons (c_val (v_ixT (val_var rfl) (v_I0 val_c (v_int_bl (v_eq (val_var rfl) val_c rfl))) hS2 hyb) (c_cons (c_val (val_var rfl) (c_cons (c_tupV (va_cons (v_ixT (val_var rfl) val_c (same_tup msk_same hai2) rfl) (va_cons (v_ixT (val_var rfl) val_c (same_tup msk_same hai2) rfl) (va_cons val_c va_nil))) (by simp) fun ai3 hai3 => c_nil ⟨sz_of (by simp), fun pa hpa => c_cons (c_val (val_var rfl) (c_nil ⟨sz_of (by simp), fun p hp => ?_⟩))⟩)))))))))
    have e5 := same_new (o := .tup [V.int ht, V.bl la, V.bl true]) hai3
    have e6 := same_new (o := .tup [yb, V.ref dd, V.ref ai3]) hpa
    have e7 := same_new (o := .tup [V.ref pa, vr]) hp
    have e57 := e5.trans (e6.trans e7)
    have b27 := b2'.trans (But.of (S := S2 now tl) e57)
    have hBb : BOk n (if nv = 0 then b3 else b2) := by
      by_cases h0 : nv = 0
      · rw [if_pos h0]; exact hB.part (by simp [parts])
      · rw [if_neg h0]; exact hB.part (by simp [parts])
    exact q1 p _ _ _ _ b27 (by rw [List.append_nil]; exact hN2.same e57) (SqT.of upd_same) ⟨pa, dd, ai3, yb, n, true, rfl, same_tup (But.of e7).msk (msk_new (mutS_same hN2.mutS e5) hpa), dp_mono (But.of e57).msk (msk_dp hN2.mutS (noL_B _) hdb), hd1.mono b27.msk, hBb, same_tup (But.of (e6.trans e7)).msk (msk_new hN2.mutS hai3)⟩ (hfv1.same b27.msk)
  | op l b1 b2 =>
    replace hS1 : SqT K _ ta (V.str (kwO l) :: trest) := hS1
    refine sq_no (a_and (b1 := false) (b2 := false) (a_eq (v_ixT (val_var rfl) val_c hS1 (atI_nat (j := 0) rfl)) val_c rfl (by cases l <;> decide +kernel)) (fun z => by cases z)) ?_
    refine sq_no (a_eq (v_ixT (val_var rfl) val_c hS1 (atI_nat (j := 0) rfl)) val_c rfl (by cases l <;> decide +kernel)) ?_
    simp only [putB] at hput
    clear hda1 lda
    simp only at hda'
    generalize dn ++ num.toList = dn' at hput hda'
    rcases dn' with _ | ⟨m, _ | ⟨k, _ | ⟨_, _⟩⟩⟩
    · cases hput
    · cases hput
      exact put_tail T hN1 hX1 hv1 hd1 hB hai1 hda' hfv1 hev (by simp) q1 (.inl ⟨b2, rfl, rfl⟩)
    · cases hput
      exact put_tail T hN1 hX1 hv1 hd1 hB hai1 hda' hfv1 hev (by simp) q1 (.inr ⟨by simp [parts], .inr (.inl ⟨l, b1, b2, m, k, rfl, rfl, rfl⟩)⟩)
    · cases hput
  | tell b1 =>
    replace hS1 : SqT K _ ta (V.str ("tell" : Str) :: trest) := hS1
    refine sq_no (a_and (b1 := false) (b2 := false) (a_eq (v_ixT (val_var rfl) val_c hS1 (atI_nat (j := 0) rfl)) val_c rfl (by decide +kernel)) (fun z => by cases z)) ?_
    refine sq_no (a_eq (v_ixT (val_var rfl) val_c hS1 (atI_nat (j := 0) rfl)) val_c rfl (by decide +kernel)) ?_
    simp only [putB] at hput
    clear hda1 lda
    simp only at hda'
    generalize dn ++ num.toList = dn' at hput hda'
    rcases dn' with _ | ⟨m, _ | ⟨k, _⟩⟩
    · cases hput
    · cases hput
      exact put_tail T hN1 hX1 hv1 hd1 hB hai1 hda' hfv1 hev (by simp) q1 (.inr ⟨by simp [parts], .inl ⟨b1, m, rfl, rfl, rfl⟩⟩)
    · cases hput
  | ask f as =>
    replace hS1 : SqT K _ ta (V.str ("ask" : Str) :: trest) := hS1
    refine sq_no (a_and (b1 := false) (b2 := false) (a_eq (v_ixT (val_var rfl) val_c hS1 (atI_nat (j := 0) rfl)) val_c rfl (by decide +kernel)) (fun z => by cases z)) ?_
    refine sq_no (a_eq (v_ixT (val_var rfl) val_c hS1 (atI_nat (j := 0) rfl)) val_c rfl (by decide +kernel)) ?_
    simp only [putB] at hput
    clear hda1 lda
    simp only at hda'
    have hal : as.length ≤ 90 := by
      have z := hB.nb
      simp only [bd] at z
      omega
    generalize dn ++ num.toList = dn' at hput hda'
    cases hg : as[dn'.length]? with
    | some b =>
      rw [hg] at hput
      cases hput
      have hlt : dn'.length < as.length := (List.getElem?_eq_some_iff.mp hg).1
      exact put_tail T hN1 hX1 hv1 hd1 hB hai1 hda' hfv1 hev (by omega) q1 (.inl ⟨b, hg, rfl⟩)
    | none =>
      rw [hg] at hput
      by_cases hl : dn'.length = as.length
      · simp only [if_pos hl] at hput
        cases hput
        exact put_tail T hN1 hX1 hv1 hd1 hB hai1 hda' hfv1 hev (by omega) q1 (.inr ⟨by show as.length ≤ _; omega, .inr (.inr ⟨f, as, rfl, rfl⟩)⟩)
      · simp only [if_neg hl] at hput
        cases hput
end
end Wn
end
section
set_option Elab.async false
set_option linter.all false
set_option maxRecDepth 100000
set_option maxHeartbeats 4000000
namespace Wn
open PySem PySem.Spec PyProof.Rows L2
theorem run2_grow {bk : Str → Option (List Str × Bs)} {most m : Nat} {a : At Str} {rest : List (Fr Str)} {tr : List (Ev Str)} {dp many : Nat} {r : Res Str} (h : Run2 bk most m a rest tr dp many r) : tr.length ≤ r.tr.length := by
  induction h with
  | done => exact Nat.le_refl _
  | on _ _ ih => exact ih
  | put _ _ ih => rw [List.length_append] at ih; omega
  | long _ _ => exact Nat.le_refl _
  | ask _ _ _ _ _ ih => rw [List.length_append] at ih; omega
theorem now0b {tl ed : Addr} {most : Nat} (y : Str) : valV (mergeK [] [((Sum.inr ("trail" : Str) : Key), V.ref tl), (Sum.inr ("deepest" : Str), V.int 0), (Sum.inr ("left" : Str), V.int 0), (Sum.inr ("many" : Str), V.int 0), (Sum.inr ("most" : Str), V.int (most : Nat)), (Sum.inr ("end" : Str), V.non), (Sum.inr ("errands" : Str), V.ref ed)]) (Sum.inr y) =
      if y = "errands" then some (V.ref ed) else if y = "end" then some V.non else if y = "most" then some (V.int (most : Nat)) else if y = "many" then some (V.int 0) else if y = "left" then some (V.int 0) else if y = "deepest" then some (V.int 0) else if y = "trail" then some (V.ref tl) else none := by
    show valV (putK (putK (putK (putK (putK (putK (putK ([] : List (Key × V)) (Sum.inr ("trail" : Str)) (V.ref tl)) (Sum.inr ("deepest" : Str)) (V.int 0)) (Sum.inr ("left" : Str)) (V.int 0)) (Sum.inr ("many" : Str)) (V.int 0)) (Sum.inr ("most" : Str)) (V.int (most : Nat))) (Sum.inr ("end" : Str)) V.non) (Sum.inr ("errands" : Str)) (V.ref ed)) (Sum.inr y) = _
    simp only [valV_put, Sum.inr.injEq, valV_nil]
def spRun (K : PySem.W.Frag) : Sp := fun vs H Q _ => ∃ (v : V) (f : Str) (na : Addr) (most : Nat) (bb : List EB) (ns : List Int) (r : Res Str), vs = [v, .str f, .ref na, .int most] ∧ Dp K H v (encBB bb) ∧ bb.length ≤ 10 ∧ SqT K H na (ns.map .int) ∧ (∀ g xs b, bkF bb g = some (xs, b) → xs.length ≤ 4 ∧ BOk 4 b) ∧ r.tr.length ≤ 90000 ∧ Askd (bkF bb) most f ns 0 [] [] 0 0 r ∧
  ∀ v' H', Same H H' → RV K H' r v' → Q v' H'
theorem ty_tup {K : PySem.W.Frag} {H : Hp} {a : Addr} {xs : List V} (hS : SqT K H a xs) : TyX K H (.ref a) (.type "tuple") := by
  rcases hS with (e | ⟨o, e⟩) | ⟨o, its, n, e1, e2, _⟩
  · exact .base (.tup e)
  · exact .fTuple e
  · exact .kTuple e1 e2
theorem a_isi {K : PySem.W.Frag} {σ : L2.St} {H : Hp} {te : TE} {x : V} {t : Value} {b : Bool} (hv : Val te σ H x) (ty : TyX K H x t) (h : PySem.W.kitOne K t (.type "tuple") = some b) : Ans (tTest (tCB (rIsi K) (tCons te (tCons (tC (.ty "tuple")) tNil)))) σ H b := fun Q q => hv _ ⟨_, _, _, _, b, rfl, .ty _, ty, h, b, rfl, q⟩
/-- what a run's turn reaches -/
def RunSt (K : PySem.W.Frag) (H0 : Hp) (now tl ed : Addr) (ge : Str → Option V) (F : Str → Option (List Str × Bs)) (most : Nat) (r : Res Str) (m : Nat) (va vr : V) (H : Hp) : Prop :=
  Same H0 H ∧ ((∃ (a : At Str) (rest : List (Fr Str)) (tr : List (Ev Str)) (dp many : Nat) (fn : Str → Option V), FX K now tl ed ge F H ∧ NB K H now tl ed fn tr dp many most .non ∧ AV K (msk (S2 now tl) H) a va ∧ FV K (msk (S2 now tl) H) rest vr ∧ Run2 F most m a rest tr dp many r) ∨
    (m = 0 ∧ ∃ (fn : Str → Option V) (ve : V) (many : Nat), NB K H now tl ed fn r.tr r.dp many most ve ∧ Dp K H ve (encN r.en)))
theorem c_lst' {σ : L2.St} {H : Hp} {tr : TA} {Q : VK} (h : tr σ H fun xs H1 => xs.length ≤ sizeLine ∧ ∀ p, H1 p = none → Q (.ref p) (upd H1 p (.lst xs))) : tLst tr σ H Q := h
theorem c_asg {σ : L2.St} {H : Hp} {te : TE} {g : TG} {D : Ends} (h : te σ H fun x H1 => g x σ H1 D.nx) : tAsg te g D σ H := h
theorem num_ty {K : PySem.W.Frag} {H : Hp} (num : Option Int) : ∃ t, TyX K H (numV num) t ∧ PySem.W.kitOne K t (.type "tuple") = some false := by
  cases num with
  | none => exact ⟨_, .base .non, kit_ty (by decide +kernel)⟩
  | some n => exact ⟨_, .base (.int n), kit_ty (by decide +kernel)⟩
theorem av_num {K : PySem.W.Frag} {H : Hp} {num : Option Int} {va : V} (h : AV K H (numAt num) va) : va = numV num := by
  cases num with
  | none => exact h
  | some n => exact h
theorem en_ne {K : PySem.W.Frag} {H : Hp} {ve : V} {e : En} (h : Dp K H ve (encN e)) : ve ≠ .non := by
  have : ∃ ds, encN e = .tuple ds := by cases e <;> exact ⟨_, rfl⟩
  obtain ⟨ds, hd⟩ := this
  rw [hd] at h
  obtain ⟨a, xs, rfl, _⟩ := dp_tup h
  intro z; cases z
section
variable {P : Program} {w : World} {K : PySem.W.Frag} {mg : Str → Option Value} {base : Heap} {ad : Nat → Addr} {fd : Nat → FuncData} {cL cT cN cB : Addr}
theorem ok_Lrun (T : Tx K mg ad fd cL cT cN cB) : FnOk P w K mg base CX0 4 (ad 38) (fd 38) ["book", "f", "numbers", "most"] (spRun K) := by
  have G_Lasked := ok_Lasked (P := P) (w := w) (base := base) T
  have G_Lon := ok_Lon (P := P) (w := w) (base := base) T
  have G_Lput_in := ok_Lput_in (P := P) (w := w) (base := base) T
  refine T.F_Lrun.ok sc_Lrun (fun vs H Q E h => ?_) (fun cdv A outer s H vs Q E hr h => ?_)
  · obtain ⟨v, f, na, most, bb, ns, r, rfl, _⟩ := h
    rfl
  obtain ⟨v, f, na, most, bb, ns, r, rfl, hv, hbl, hna, hbb, hlen, hrun, q⟩ := h
  refine ⟨_, (pss_cons (ps_set (i := 4) sc_Lrun.nd rfl (Or.inl rfl) (pe_disp (pps_cons pe_str (pe_lst pa_nil) (pps_cons pe_str pe_int (pps_cons pe_str pe_int (pps_cons pe_str pe_int (pps_cons pe_str (pv 3) (pps_cons pe_str pe_non (pps_cons pe_str pe_dnewK pps_nil))))))) (by rfl) (by rfl) (fun z => by cases z) (by decide)))
    (pss_cons (ps_for PassesOwn.never rfl (pi_tup (pv 0)) (pg_tup (by rfl) (pgs_cons (pg_name (i := 5) sc_Lrun.nd rfl (Or.inl rfl)) (pgs_cons (pg_name (i := 6) sc_Lrun.nd rfl (Or.inl rfl)) (pgs_cons (pg_name (i := 7) sc_Lrun.nd rfl (Or.inl rfl)) pgs_nil))))
    (pss_one (ps_dput (hu_of hr) (pe_dget (hu_of hr) (pv 4) pe_str (fun _ _ => rfl)) (pv 5) (pe_tup (pa_cons (pv 6) (pa_cons (pv 7) pa_nil))) rfl)))
    (pss_cons (ps_set (i := 8) sc_Lrun.nd rfl (Or.inl rfl) (pe_call G_Lasked (hr.mono (by first | decide | omega)) (by rfl) T.m_Lasked T.F_Lasked.kp (b_Lasked T) .nil pass0 (pa_cons (pv 4) (pa_cons (pv 1) (pa_cons (pv 2) (pa_cons pe_int pa_nil))))))
    (pss_cons (ps_set (i := 9) sc_Lrun.nd rfl (Or.inl rfl) pe_non)
    (pss_cons (ps_while PassesOwn.never (pt_cmpR op_isN (pe_dget (hu_of hr) (pv 4) pe_str (fun _ _ => rfl)) pe_non (nomark _))
    (pss_one (ps_if (pt_val (pe_callB (id := "isinstance") call_isi (by rfl) T.z_isinstance (by decide +kernel) (pa_cons (pv 8) (pa_cons (pe_bltn (v := .ty "tuple") (by rfl) T.z_tuple (by decide +kernel) rfl) pa_nil)))) (pss_one (ps_asg (pe_call G_Lon (hr.mono (by first | decide | omega)) (by rfl) T.m_Lon T.F_Lon.kp (b_Lon T) .nil pass0 (pa_cons (pe_ix ix_tup (pv 8) pe_int (fun _ _ => rfl)) (pa_cons (pe_ix ix_tup (pv 8) pe_int (fun _ _ => rfl)) (pa_cons (pe_ix ix_tup (pv 8) pe_int (fun _ _ => rfl)) (pa_cons (pv 9) pa_nil))))) (pg_tup (by rfl) (pgs_cons (pg_name (i := 8) sc_Lrun.nd rfl (Or.inl rfl)) (pgs_cons (pg_name (i := 9) sc_Lrun.nd rfl (Or.inl rfl)) pgs_nil))))) (pss_one (ps_if (pt_cmpR op_isN (pv 9) pe_non (nomark _)) (pss_one (ps_dput (hu_of hr) (pv 4) pe_str (pe_tup (pa_cons pe_str (pa_cons (pv 8) pa_nil))) rfl)) (pss_one (ps_asg (pe_call G_Lput_in (hr.mono (by first | decide | omega)) (by rfl) T.m_Lput_in T.F_Lput_in.kp (b_Lput_in T) .nil pass0 (pa_cons (pv 4) (pa_cons (pv 8) (pa_cons (pv 9) pa_nil)))) (pg_tup (by rfl) (pgs_cons (pg_name (i := 8) sc_Lrun.nd rfl (Or.inl rfl)) (pgs_cons (pg_name (i := 9) sc_Lrun.nd rfl (Or.inl rfl)) pgs_nil))))))))))
    (pss_one (ps_ret (pe_tup (pa_cons (pe_dget (hu_of hr) (pv 4) pe_str (fun _ _ => rfl)) (pa_cons (pe_dget (hu_of hr) (pv 4) pe_str (fun _ _ => rfl)) (pa_cons (pe_dget (hu_of hr) (pv 4) pe_str (fun _ _ => rfl)) (pa_cons (pe_dget (hu_of hr) (pv 4) pe_str (fun _ _ => rfl)) pa_nil)))))))))))), ?_⟩
  obtain ⟨a, xs, rfl, hS, hx⟩ := dp_tup hv
  have lx : xs.length = bb.length := by rw [dpa_length hx, List.length_map]
  refine sq_setC (fun now hnow => c_val val_c (c_lstV va_nil (by simp) fun tl htl => c_val val_c (c_val val_c (c_val val_c (c_val val_c (c_val val_c (c_val val_c (c_val val_c (c_val (val_var rfl) (c_val val_c (c_val val_c (c_val val_c fun ed hed => ⟨?_, [(Sum.inr ("trail" : Str), V.ref tl), (Sum.inr ("deepest" : Str), V.int 0), (Sum.inr ("left" : Str), V.int 0), (Sum.inr ("many" : Str), V.int 0), (Sum.inr ("most" : Str), V.int (most : Nat)), (Sum.inr ("end" : Str), V.non), (Sum.inr ("errands" : Str), V.ref ed)], rfl, by simp, ?_⟩))))))))))))
  · rw [upd_ne (fun z => by rw [← z, upd_ne (fun z2 => by rw [← z2, upd_same] at htl; cases htl), upd_same] at hed; cases hed), upd_ne (fun z => by rw [← z, upd_same] at htl; cases htl), upd_same]
  have nnt : now ≠ tl := fun z => by rw [← z, upd_same] at htl; cases htl
  have nte : tl ≠ ed := fun z => by rw [← z, upd_same] at hed; cases hed
  have nne : now ≠ ed := fun z => by rw [← z, upd_ne nnt, upd_same] at hed; cases hed
  have e3 := same_new (o := .dK []) hnow
  have e4 := same_new (o := .lst []) htl
  have e4b := same_new (o := .dK []) hed
  have htlH : H tl = none := free_of (fun o ho => ⟨o, e3 _ _ ho⟩) htl
  have hedH : H ed = none := free_of (fun o ho => ⟨o, (e3.trans e4) _ _ ho⟩) hed
  have e5 : Same H (upd (upd (upd (upd H now (.dK [])) tl (.lst [])) ed (.dK [])) now (.dK (mergeK [] [((Sum.inr ("trail" : Str) : Key), V.ref tl), (Sum.inr ("deepest" : Str), V.int 0), (Sum.inr ("left" : Str), V.int 0), (Sum.inr ("many" : Str), V.int 0), (Sum.inr ("most" : Str), V.int (most : Nat)), (Sum.inr ("end" : Str), V.non), (Sum.inr ("errands" : Str), V.ref ed)]))) := same_drop (But.mut (S := fun b => b = now) rfl) (fun b hb => by rw [hb]; exact hnow) (e3.trans (e4.trans e4b))
  have hN5 : NB K (upd (upd (upd (upd H now (.dK [])) tl (.lst [])) ed (.dK [])) now (.dK (mergeK [] [((Sum.inr ("trail" : Str) : Key), V.ref tl), (Sum.inr ("deepest" : Str), V.int 0), (Sum.inr ("left" : Str), V.int 0), (Sum.inr ("many" : Str), V.int 0), (Sum.inr ("most" : Str), V.int (most : Nat)), (Sum.inr ("end" : Str), V.non), (Sum.inr ("errands" : Str), V.ref ed)]))) now tl ed _ [] 0 0 most .non :=
    ⟨⟨_, upd_same, Nat.le_trans (length_mergeK _ _) (by simp), now0b⟩,
      by rw [if_neg (by decide +kernel), if_neg (by decide +kernel), if_neg (by decide +kernel), if_neg (by decide +kernel), if_neg (by decide +kernel), if_neg (by decide +kernel), if_pos rfl],
      by rw [if_neg (by decide +kernel), if_neg (by decide +kernel), if_neg (by decide +kernel), if_neg (by decide +kernel), if_neg (by decide +kernel), if_pos rfl]; rfl,
      ⟨0, by rw [if_neg (by decide +kernel), if_neg (by decide +kernel), if_neg (by decide +kernel), if_neg (by decide +kernel), if_pos rfl]⟩,
      by rw [if_neg (by decide +kernel), if_neg (by decide +kernel), if_neg (by decide +kernel), if_pos rfl]; rfl,
      by rw [if_neg (by decide +kernel), if_neg (by decide +kernel), if_pos rfl], by rw [if_neg (by decide +kernel), if_pos rfl], by rw [if_pos rfl],
      ⟨[], by rw [upd_ne (Ne.symm nnt), upd_ne nte, upd_same], .nil⟩, nnt⟩
  have hE5 : DK (upd (upd (upd (upd H now (.dK [])) tl (.lst [])) ed (.dK [])) now (.dK (mergeK [] [((Sum.inr ("trail" : Str) : Key), V.ref tl), (Sum.inr ("deepest" : Str), V.int 0), (Sum.inr ("left" : Str), V.int 0), (Sum.inr ("many" : Str), V.int 0), (Sum.inr ("most" : Str), V.int (most : Nat)), (Sum.inr ("end" : Str), V.non), (Sum.inr ("errands" : Str), V.ref ed)]))) ed 0 (fun _ => none) := (DK.new).upd_ne' (Ne.symm nne)
  clear e3 e4 e4b htl hed
  generalize upd (upd (upd (upd H now (.dK [])) tl (.lst [])) ed (.dK [])) now (.dK (mergeK [] [((Sum.inr ("trail" : Str) : Key), V.ref tl), (Sum.inr ("deepest" : Str), V.int 0), (Sum.inr ("left" : Str), V.int 0), (Sum.inr ("many" : Str), V.int 0), (Sum.inr ("most" : Str), V.int (most : Nat)), (Sum.inr ("end" : Str), V.non), (Sum.inr ("errands" : Str), V.ref ed)])) = H5 at *
  refine st_seq ⟨_, rfl, a, rfl, ⟨xs, same_tup e5 hS⟩, for_tup (xs := xs) (fun i σ H' => ∃ (a5 a6 a7 : Option V) (ge fn : Str → Option V), σ = [some (.ref a), some (.str f), some (.ref na), some (.int most), some (.ref now), a5, a6, a7, none, none] ∧ Same H H' ∧ DK H' ed i ge ∧ EF K encB H' ge (bkF (bb.take i)) ∧ NB K H' now tl ed fn [] 0 0 most .non) ?_ ?_ ?_ ?_⟩
  · exact ⟨none, none, none, _, _, rfl, e5, hE5, fun f xs b h => (by rw [List.take_zero] at h; cases h), hN5⟩
  · rintro i σ H' _ ⟨_, _, _, _, _, _, e, _⟩
    exact same_tup e hS
  · rintro i x σ H2 hxi ⟨a5, a6, a7, ge, fn, rfl, e2, hD2, hE2, hN2⟩
    have hi : i < bb.length := by
      rw [← lx]
      exact (List.getElem?_eq_some_iff.mp hxi).1
    have hbi : bb[i]? = some bb[i] := List.getElem?_eq_getElem hi
    obtain ⟨x2, z1, z2⟩ := dpa_get hx (d := encRB bb[i]) (i := i) (by rw [List.getElem?_map, hbi]; rfl)
    rw [hxi] at z1
    cases z1
    generalize bb[i] = e at *
    obtain ⟨ae, te, ze, rfl, hE, hN, hB⟩ := pp_er z2
    refine ⟨ae, _, rfl, same_tup e2 hE, rfl, _, _, rfl, _, _, rfl, _, _, rfl, rfl, ?_⟩
    refine en_dputC (c_tupV (va_cons (val_var rfl) (va_cons (val_var rfl) va_nil)) (by simp) fun p hp => ?_)
    have e3 := same_new (o := .tup [V.ref te, ze]) hp
    refine c_val (v_dget (val_var rfl) val_c (hN2.dk.mono e3) hN2.fer) (c_val (val_var rfl) (r_dput (hD2.mono e3) (by omega) fun kvs hk => ?_))
    have bm : But (fun b => b = ed) (upd H2 p (.tup [V.ref te, ze])) (upd (upd H2 p (.tup [V.ref te, ze])) ed (.dK kvs)) := But.mut rfl
    have mm : MutS (fun b => b = ed) (upd H2 p (.tup [V.ref te, ze])) := mutS1 (dk_mut (hD2.mono e3))
    have e4 := same_drop bm (fun b hb => by rw [hb]; exact hedH) (e2.trans e3)
    have hN3 := hN2.same e3
    obtain ⟨acc, ac1, ac2⟩ := hN3.tla
    refine ⟨_, _, _, _, fn, rfl, e4, hk, fun g ys b h => ?_, ⟨hN3.dk.upd_ne' nne, hN3.ft, hN3.fdp, hN3.fl, hN3.fm, hN3.fmo, hN3.fe, hN3.fer, ⟨acc, by rw [upd_ne nte]; exact ac1, but_dpa bm mm (noLs_Vs _) ac2⟩, nnt⟩⟩
    rw [take_snoc hbi, bkF_snoc] at h
    by_cases eg : g = e.1
    · rw [eg, fset_same] at h
      have h2 : e.2 = (ys, b) := Option.some.inj h
      refine ⟨p, te, ze, by rw [eg]; exact fset_same, but_tup bm mm (SqT.of upd_same), ?_, ?_⟩
      · rw [show ys = e.2.1 by rw [h2]]; exact same_tup e4 hN
      · rw [show b = e.2.2 by rw [h2]]; exact dp_mono e4 hB
    · rw [fset_ne eg] at h
      obtain ⟨a', te', z', h1, h2, h3, h4⟩ := hE2 g ys b h
      exact ⟨a', te', z', by rw [fset_ne eg]; exact h1, but_tup bm mm (same_tup e3 h2), but_tup bm mm (same_tup e3 h3), but_dp bm mm (noL_B _) (dp_mono e3 h4)⟩
  · rintro σ H2 ⟨a5, a6, a7, ge, fn, rfl, e2, hD2, hE2, hN2⟩
    rw [lx] at hD2 hE2
    rw [List.take_length] at hE2
    dsimp only
    have hG : ∀ b, S2 now tl b → H b = none := fun b hb => hb.elim (fun z => by rw [z]; exact hnow) fun z => by rw [z]; exact htlH
    have eG : Same H (msk (S2 now tl) H2) := fun b o hb => msk_of (fun z => by rw [hG b z] at hb; cases hb) (e2 b o hb)
    have hm2 := hN2.mutS
    have hX2 : FX K now tl ed ge (bkF bb) H2 := by
      refine ⟨?_, fun g ys b h => ?_⟩
      · obtain ⟨kvs, w1, w2, w3⟩ := hD2
        exact ⟨kvs, msk_of (fun z => z.elim (fun z => nne z.symm) fun z => nte z.symm) w1, by omega, w3⟩
      · obtain ⟨a', te', z', h1, h2, h3, h4⟩ := hE2 g ys b h
        exact ⟨a', te', z', h1, msk_tup hm2 h2, msk_tup hm2 h3, msk_dp hm2 (noL_B _) h4⟩
    have hsm : ∀ {H' : Hp}, But (S2 now tl) H2 H' → Same H H' := fun b => same_drop b hG e2
    refine sq_setC (c_call (va_cons (val_var rfl) (va_cons (val_var rfl) (va_cons (val_var rfl) (va_cons val_c va_nil)))) ⟨now, tl, ed, ge, bkF bb, fn, [], 0, 0, most, f, na, ns, 0, rfl, hN2, hX2, same_tup eG hna, Nat.zero_le _, ?_⟩)
    have p0 : PAsk K now tl ed (bkF bb) [] 0 0 most f ns 0 H2 (fun va H1 => ∃ m, RunSt K H now tl ed ge (bkF bb) most r m va .non H1) := by
      refine ⟨fun e p H' fn' ve b n d => ?_, fun e => ?_⟩
      · rcases hrun with ⟨_, rfl⟩ | ⟨h, _⟩
        · exact ⟨0, hsm b, .inr ⟨rfl, fn', ve, 0, n, d⟩⟩
        · exact absurd e h
      · rcases hrun with ⟨h, _⟩ | ⟨_, xs2, body, m, h1, h2, h3⟩
        · exact absurd h e
        · obtain ⟨h4, h5⟩ := hbb _ _ _ h1
          refine ⟨xs2, body, h1, h2, h4, h5, fun v' H' fn' b n av => ⟨m, hsm b, .inl ⟨_, [], _, _, _, fn', hX2.but b, n, av, rfl, h3⟩⟩⟩
    refine PAsk.imp But.refl (fun va0 H6 b6 z => ?_) p0
    obtain ⟨m0, hst0⟩ := z
    clear p0 hsm
    refine sq_set val_c ?_
    refine st_seq ?_
    refine ⟨fun m σ H' => ∃ va vr, σ = [some (.ref a), some (.str f), some (.ref na), some (.int most), some (.ref now), a5, a6, a7, some va, some vr] ∧ RunSt K H now tl ed ge (bkF bb) most r m va vr H', ⟨m0, va0, .non, rfl, hst0⟩, ?_⟩
    rintro m σ H8 ⟨va, vr, rfl, e8, hst⟩
    have hsm8 : ∀ {H' : Hp}, But (S2 now tl) H8 H' → Same H H' := fun b => same_drop b hG e8
    rcases hst with ⟨a', rest, tr, dp, many, fn8, hX8, hN8, hA8, hF8, hr8⟩ | ⟨rfl, fn8, ve, many, hN8, hd8⟩
    · refine a_isN (b := true) (v_dget (val_var rfl) val_c hN8.dk hN8.fe) (by decide +kernel) _ (iteT ?_)
      refine ⟨_, fun _ _ n => n, ?_⟩
      have hgr := run2_grow hr8
      -- a number, or nothing, put in
      have put : ∀ (num : Option Int) (fr : Fr Str) (rest1 : List (Fr Str)) (pt : Put Str) (R : VK), va = numV num → FV K (msk (S2 now tl) H8) (fr :: rest1) vr → putB num fr.t fr.r fr.ht fr.la fr.dn rest1 = some pt → PPut K now tl ed (bkF bb) tr dp many most rest1 H8 R pt → (spPut K) [.ref now, va, vr] H8 R E0 := fun num fr rest1 pt R h1 h2 h3 h4 =>
        ⟨now, tl, ed, ge, bkF bb, fn8, tr, dp, many, most, num, fr, rest1, vr, pt, by rw [h1], hN8, hX8, h2, by omega, h3, h4⟩
      cases hr8 with
      | @done n0 _ _ _ =>
        have hva : va = .int n0 := hA8
        have hvr : vr = .non := hF8
        subst hva hvr
        refine c_ifC (a_isi (val_var rfl) (.base (.int _)) (kit_ty (by decide +kernel)) _ (iteF ?_))
        refine c_ifC (a_isN (val_var rfl) (by decide +kernel) _ (iteT ?_))
        refine en_dputC (c_tupV (va_cons val_c (va_cons (val_var rfl) va_nil)) (by simp) fun p1 hp1 => ?_)
        have e9 := same_new (o := .tup [V.str "done", V.int n0]) hp1
        refine c_val (val_var rfl) (c_val val_c ((hN8.dk.mono e9).put_old (by decide) hN8.fe fun kvs hk => ?_))
        have b10 : But (S2 now tl) (upd H8 p1 (.tup [V.str "done", V.int n0])) (upd (upd H8 p1 (.tup [V.str "done", V.int n0])) now (.dK kvs)) := But.mut (.inl rfl)
        exact ⟨0, Nat.one_pos, _, _, rfl, hsm8 ((But.of e9).trans b10), .inr ⟨rfl, _, _, many, (hN8.same e9).ends hk, but_dp b10 (mutS_same hN8.mutS e9) ⟨trivial, trivial, trivial⟩ (.tup (SqT.of upd_same) (.cons (.str _) (.cons (.int _) .nil)))⟩⟩
      | @on m' t r' ht la _ a2 rest2 _ _ _ _ hon hr' =>
        obtain ⟨aa, dd, ai, vt, n, xb, rfl, q1, q2, q3, q4, q5⟩ := hA8
        have q1' := same_tup msk_same q1
        refine c_ifC (a_isi (val_var rfl) (ty_tup q1') (kit_ty (by decide +kernel)) _ (iteT ?_))
        refine c_asg (c_call (va_cons (v_ixT (val_var rfl) val_c q1' rfl) (va_cons (v_ixT (val_var rfl) val_c q1' rfl) (va_cons (v_ixT (val_var rfl) val_c q1' rfl) (va_cons (val_var rfl) va_nil)))) ⟨S2 now tl, t, r', ht, la, xb, rest, a2, rest2, vt, vr, dd, ai, n, rfl, hN8.mutS, q2, q3, q4, q5, hF8, hon, fun p H' va' vr' e9 hp av fv => ?_⟩)
        refine ⟨p, _, rfl, hp, rfl, _, _, rfl, _, _, rfl, rfl, ?_⟩
        exact ⟨m', Nat.lt_succ_self _, va', vr', rfl, e8.trans e9, .inl ⟨a2, rest2, tr, dp, many, fn8, hX8.but (But.of e9), hN8.same e9, av, fv, hr'⟩⟩
      | @put m' num t r' ht la dn rest1 evs a2 rest2 _ _ _ _ hput hr' =>
        have hva := av_num hA8
        obtain ⟨ty, t1, t2⟩ := num_ty (K := K) (H := H8) num
        have hvr : ∃ x, vr = .ref x := by
          obtain ⟨x, _, _, _, _, _, _, _, h, _⟩ := hF8
          exact ⟨x, h⟩
        obtain ⟨x, hvr⟩ := hvr
        refine c_ifC (a_isi (val_var rfl) (by rw [hva]; exact t1) t2 _ (iteF ?_))
        refine c_ifC (a_isN (val_var rfl) (decide_eq_false (by rw [hvr]; intro z; cases z)) _ (iteF ?_))
        refine c_asg (c_call (va_cons (val_var rfl) (va_cons (val_var rfl) (va_cons (val_var rfl) va_nil))) (put num ⟨t, r', ht, la, dn⟩ rest1 _ _ hva hF8 hput ?_))
        intro p H' fn' va' vr' b n s av fv
        refine ⟨p, _, rfl, s, rfl, _, _, rfl, _, _, rfl, rfl, ?_⟩
        exact ⟨m', Nat.lt_succ_self _, va', vr', rfl, hsm8 b, .inl ⟨a2, rest2, _, dp, many, fn', hX8.but b, n, av, fv, hr'⟩⟩
      | @long num t r' ht la dn rest1 f1 ns1 h1 _ _ _ hput hmm =>
        have hva := av_num hA8
        obtain ⟨ty, t1, t2⟩ := num_ty (K := K) (H := H8) num
        have hvr : ∃ x, vr = .ref x := by
          obtain ⟨x, _, _, _, _, _, _, _, h, _⟩ := hF8
          exact ⟨x, h⟩
        obtain ⟨x, hvr⟩ := hvr
        refine c_ifC (a_isi (val_var rfl) (by rw [hva]; exact t1) t2 _ (iteF ?_))
        refine c_ifC (a_isN (val_var rfl) (decide_eq_false (by rw [hvr]; intro z; cases z)) _ (iteF ?_))
        refine c_asg (c_call (va_cons (val_var rfl) (va_cons (val_var rfl) (va_cons (val_var rfl) va_nil))) (put num ⟨t, r', ht, la, dn⟩ rest1 _ _ hva hF8 hput ?_))
        unfold PPut
        refine ⟨fun _ p H' fn' ve b n d p2 vr2 hp2 _ => ?_, fun e => absurd hmm e⟩
        have e9 := same_new (o := .tup [V.ref p, vr2]) hp2
        refine ⟨p2, _, rfl, SqT.of upd_same, rfl, _, _, rfl, _, _, rfl, rfl, ?_⟩
        exact ⟨0, Nat.one_pos, _, _, rfl, hsm8 (b.trans (But.of e9)), .inr ⟨rfl, fn', ve, many, n.same e9, dp_mono e9 d⟩⟩
      | @ask m' num t r' ht la dn rest1 f1 ns1 h1 xs2 body _ _ _ _ hput hne hbk hl2 hr' =>
        have hva := av_num hA8
        obtain ⟨ty, t1, t2⟩ := num_ty (K := K) (H := H8) num
        have hvr : ∃ x, vr = .ref x := by
          obtain ⟨x, _, _, _, _, _, _, _, h, _⟩ := hF8
          exact ⟨x, h⟩
        obtain ⟨x, hvr⟩ := hvr
        refine c_ifC (a_isi (val_var rfl) (by rw [hva]; exact t1) t2 _ (iteF ?_))
        refine c_ifC (a_isN (val_var rfl) (decide_eq_false (by rw [hvr]; intro z; cases z)) _ (iteF ?_))
        refine c_asg (c_call (va_cons (val_var rfl) (va_cons (val_var rfl) (va_cons (val_var rfl) va_nil))) (put num ⟨t, r', ht, la, dn⟩ rest1 _ _ hva hF8 hput ?_))
        unfold PPut
        obtain ⟨h4, h5⟩ := hbb _ _ _ hbk
        refine ⟨fun e => absurd e hne, fun _ => ⟨xs2, body, hbk, hl2, h4, h5, fun v' H' fn' b n av p2 vr2 hp2 fv => ?_⟩⟩
        have e9 := same_new (o := .tup [v', vr2]) hp2
        refine ⟨p2, _, rfl, SqT.of upd_same, rfl, _, _, rfl, _, _, rfl, rfl, ?_⟩
        exact ⟨m', Nat.lt_succ_self _, _, _, rfl, hsm8 (b.trans (But.of e9)), .inl ⟨_, rest1, _, _, _, fn', hX8.but (b.trans (But.of e9)), n.same e9, av.same (But.of e9).msk, fv.same (But.of e9).msk, hr'⟩⟩
    · refine a_isN (b := false) (v_dget (val_var rfl) val_c hN8.dk hN8.fe) (decide_eq_false (en_ne hd8)) _ (iteF ?_)
      dsimp only
      obtain ⟨acc, ac1, ac2⟩ := hN8.tla
      obtain ⟨ml, hml⟩ := hN8.fl
      refine c_ret (c_tupV (va_cons (v_dget (val_var rfl) val_c hN8.dk hN8.ft) (va_cons (v_dget (val_var rfl) val_c hN8.dk hN8.fe) (va_cons (v_dget (val_var rfl) val_c hN8.dk hN8.fdp) (va_cons (v_dget (val_var rfl) val_c hN8.dk hml) va_nil)))) (by simp) fun p hp => ?_)
      have e9 := same_new (o := .tup [V.ref tl, ve, V.int r.dp, V.int ml]) hp
      exact q _ _ (e8.trans e9) ⟨p, tl, ve, _, acc, rfl, SqT.of upd_same, e9 _ _ ac1, dpa_mono e9 ac2, dp_mono e9 hd8⟩
end
end Wn
end
section
set_option Elab.async false
set_option linter.all false
set_option maxRecDepth 100000
set_option maxHeartbeats 4000000
namespace Wn
open PySem PySem.Spec PyProof.Rows L2
def encTn : Tm Nat → PyData
  | .num n => .tuple [.str "number", .int n]
  | .nm x => .tuple [.str "name", .int x]
  | .op l a b => .tuple [.str (kwO l), encTn a, encTn b]
def hvD : Option Nat → PyData
  | none => .str "home"
  | some b => .int b
def hvV : Option Nat → V
  | none => .str "home"
  | some b => .int b
def encSh : Sh Str → PyData
  | .give j s => .tuple [.str "give", hvD j, encTn s]
  | .ask f ss j => .tuple [.str "ask", .str f, .tuple (ss.map encTn), hvD j]
  | .st tl x s T => .tuple [.str (kwS tl), .int x, encTn s, encSh T]
  | .ite s T U => .tuple [.str "if", encTn s, encSh T, encSh U]
  | .post j x T U => .tuple [.str "post", .int j, .int x, encSh T, encSh U]
theorem noL_Tn : ∀ s : Tm Nat, noL (encTn s)
  | .num _ => ⟨trivial, trivial, trivial⟩
  | .nm _ => ⟨trivial, trivial, trivial⟩
  | .op _ a b => ⟨trivial, noL_Tn a, noL_Tn b, trivial⟩
theorem noLs_Tn : ∀ l : List (Tm Nat), noLs (l.map encTn)
  | [] => trivial
  | s :: r => ⟨noL_Tn s, noLs_Tn r⟩
theorem noL_hv : ∀ j, noL (hvD j)
  | none => trivial
  | some _ => trivial
theorem noL_Sh : ∀ s : Sh Str, noL (encSh s)
  | .give j s => ⟨trivial, noL_hv j, noL_Tn s, trivial⟩
  | .ask f ss j => ⟨trivial, trivial, noLs_Tn ss, noL_hv j, trivial⟩
  | .st tl x s T => ⟨trivial, trivial, noL_Tn s, noL_Sh T, trivial⟩
  | .ite s T U => ⟨trivial, noL_Tn s, noL_Sh T, noL_Sh U, trivial⟩
  | .post j x T U => ⟨trivial, trivial, trivial, noL_Sh T, noL_Sh U, trivial⟩
theorem dp_hv {K : PySem.W.Frag} {H : Hp} : ∀ j, Dp K H (hvV j) (hvD j)
  | none => .str _
  | some _ => .int _
abbrev rV (r : Str → Option Nat) : Str → Option V := fun x => (r x).map fun k => V.int (k : Nat)
def spShTerm (K : PySem.W.Frag) (d : Nat) : Sp := fun vs H Q _ => ∃ v dd n r s, vs = [v, .ref dd] ∧ Dp K H v (encT s) ∧ DK H dd n (rV r) ∧ (∃ xs, WFt xs s ∧ ∀ x ∈ xs, ∃ k, r x = some k) ∧ tdep s ≤ d ∧ ∀ v' H', Same H H' → Dp K H' v' (encTn (rnum r s)) → Q v' H'
theorem DK.butL {H H' : Hp} {d a : Addr} {n : Nat} {f : Str → Option V} {xs : List V} (h : DK H d n f) (hl : H a = some (.lst xs)) (e : But (fun b => b = a) H H') : DK H' d n f := by
  obtain ⟨kvs, w1, w2, w3⟩ := h
  exact ⟨kvs, e _ _ (fun z => by rw [z, hl] at w1; cases w1) w1, w2, w3⟩
def spShPart (K : PySem.W.Frag) (d : Nat) : Sp := fun vs H Q _ => ∃ (v : V) (dw dh nl : Addr) (n m : Nat) (r : Str → Option Nat) (h : Str → Option (Option Nat)) (a b : Nat) (p : Pts) (xs js : List Str) (hd : Str → Option Nat), vs = [v, .ref dw, .ref dh, .ref nl] ∧ Dp K H v (encP p) ∧ DK H dw n (rV r) ∧ DK H dh m (fun j => (h j).map hvV) ∧ H nl = some (.lst [.int a, .int b]) ∧
  WFp ("home" : Str) hd 2 xs js p ∧ (∀ x ∈ xs, ∃ k, r x = some k) ∧ (∀ j ∈ js, ∃ k, h j = some k) ∧ (∀ f n, hd f = some n → n ≤ 10) ∧ nst p ≤ d ∧ n + d ≤ 90 ∧ m + d ≤ 90 ∧
  ∀ v' H', But (fun b => b = nl) H H' → H' nl = some (.lst [.int (shp p r h a b).2.1, .int (shp p r h a b).2.2]) → Dp K H' v' (encSh (shp p r h a b).1) → Q v' H'
section
variable {P : Program} {w : World} {K : PySem.W.Frag} {mg : Str → Option Value} {base : Heap} {ad : Nat → Addr} {fd : Nat → FuncData} {cL cT cN cB : Addr}
theorem ok_Lshape_term (T : Tx K mg ad fd cL cT cN cB) : ∀ d, FnOk P w K mg base CX0 d (ad 49) (fd 49) ["term", "words"] (spShTerm K d)
  | 0 => none_left fun vs H Q E h => by
    obtain ⟨v, dd, n, r, s, _, _, _, _, h, _⟩ := h
    cases s <;> simp only [tdep] at h <;> omega
  | d + 1 => by
    have G_Lshape_term := ok_Lshape_term T d
    refine T.F_Lshape_term.ok sc_Lshape_term (fun vs H Q E h => ?_) (fun cdv A outer s H vs Q E hr h => ?_)
    · obtain ⟨v, dd, n, r, s, rfl, _⟩ := h
      rfl
    obtain ⟨v, dd, n, r, s, rfl, hv, hd, ⟨xs, hw, hc⟩, hl, q⟩ := h
    refine ⟨_, (pss_cons (ps_if (pt_cmpR op_eq (pe_ix ix_tup (pv 0) pe_int (fun _ _ => rfl)) pe_str (nomark _)) (pss_one (ps_ret (pv 0))) pss_nil)
    (pss_cons (ps_if (pt_cmpR op_eq (pe_ix ix_tup (pv 0) pe_int (fun _ _ => rfl)) pe_str (nomark _)) (pss_one (ps_ret (pe_tup (pa_cons pe_str (pa_cons (pe_dget (hu_of hr) (pv 1) (pe_ix ix_tup (pv 0) pe_int (fun _ _ => rfl)) (fun _ _ => rfl)) pa_nil))))) pss_nil)
    (pss_one (ps_ret (pe_op op_catA (pe_tup (pa_cons (pe_ix ix_tup (pv 0) pe_int (fun _ _ => rfl)) pa_nil)) (pe_callTy (T := "tuple") call_tuple_of (by rfl) T.z_tuple (by decide +kernel) (pa_cons (pe_lc (own := [("one", 2)]) (by rfl) sc_Lshape_term.nd (pi_tup (pe_slice sl_tupA (pv 0) (po_some pe_int) po_none)) (blkOk_by (own := [("one", 2)]) (N := ["term", "words", "one"]) (sc := defScope s_Lshape_term) (by decide +kernel)) (fun _ _ _ _ _ => (pg_name (i := 2) sc_Lshape_term.nd rfl (Or.inl rfl))) (fun _ _ _ _ _ => pts_nil) (fun _ _ _ _ _ => (pe_call G_Lshape_term (hr.mono (by first | decide | omega)) (by rfl) T.m_Lshape_term T.F_Lshape_term.kp (b_Lshape_term T) .nil pass0 (pa_cons (pv 2) (pa_cons (pv 1) pa_nil))))) pa_nil))))))), ?_⟩
    cases s with
    | num m =>
      obtain ⟨a, rfl, hS⟩ := tm_num hv
      refine st_seq (st_yes (a_eq (v_ixT (val_var rfl) val_c hS rfl) val_c rfl (by decide +kernel)) ?_)
      exact st_ret (val_var rfl) (q _ H (Same.refl H) hv)
    | nm x =>
      obtain ⟨a, rfl, hS⟩ := tm_nm hv
      obtain ⟨k, hk⟩ := hc x hw
      refine sq_no (a_eq (v_ixT (val_var rfl) val_c hS rfl) val_c rfl (by decide +kernel)) ?_
      refine st_seq (st_yes (a_eq (v_ixT (val_var rfl) val_c hS rfl) val_c rfl (by decide +kernel)) ?_)
      refine c_ret (c_tupV (va_cons val_c (va_cons (v_dget (val_var rfl) (v_ixT (val_var rfl) val_c hS rfl) hd (v := .int k) (by show (r x).map _ = _; rw [hk]; rfl)) va_nil)) (by simp) fun p hp => q _ _ (same_new hp) ?_)
      have e : rnum r (.nm x) = .nm k := by simp only [rnum, hk, Option.getD]
      rw [e]
      exact .tup (SqT.of upd_same) (.cons (.str _) (.cons (.int _) .nil))
    | op l a b =>
      obtain ⟨a', x, y, rfl, hS, hx, hy⟩ := tm_op hv
      simp only [tdep] at hl
      refine sq_no (a_eq (v_ixT (val_var rfl) val_c hS rfl) val_c rfl (by cases l <;> decide +kernel)) ?_
      refine sq_no (a_eq (v_ixT (val_var rfl) val_c hS rfl) val_c rfl (by cases l <;> decide +kernel)) ?_
      refine c_ret (c_opL (c_tupV (va_cons (v_ixT (val_var rfl) val_c hS rfl) va_nil) (by simp) fun p1 hp1 => ?_))
      have e1 := same_new (o := .tup [V.str (kwO l)]) hp1
      have h1 : SqT K (upd H p1 (.tup [V.str (kwO l)])) p1 [V.str (kwO l)] := SqT.of upd_same
      generalize upd H p1 (.tup [V.str (kwO l)]) = H1 at *
      refine c_cbL (c_cons (c_slA (val_var rfl) (same_tup e1 hS) (to_some val_c) to_none (ys := [x, y]) rfl fun p2 H2 e2 h2 => ?_))
      have e12 := e1.trans e2
      refine ⟨p2, rfl, ⟨_, h2⟩, fun D hD => ?_⟩
      refine lc_mapT hD h2 [encTn (rnum r a), encTn (rnum r b)] rfl ⟨noL_Tn _, noL_Tn _, trivial⟩ (by simp) (fun i z d' H' R hz hd' e3 rr => ?_) (fun H3 acc e3 hD3 hacc => ?_) (fun x σ H P R m h => m _ _ h)
      · refine ⟨rfl, c_call (va_cons (val_var rfl) (va_cons (val_var rfl) va_nil)) ?_⟩
        have e4 := e12.trans e3
        match i, hz, hd' with
        | 0, hz, hd' =>
          cases hz; cases hd'
          exact ⟨x, dd, n, r, a, rfl, dp_mono e4 hx, hd.mono e4, ⟨xs, hw.1, hc⟩, by omega, fun v' H' e5 h5 => rr v' H' e5 h5⟩
        | 1, hz, hd' =>
          cases hz; cases hd'
          exact ⟨y, dd, n, r, b, rfl, dp_mono e4 hy, hd.mono e4, ⟨xs, hw.2, hc⟩, by omega, fun v' H' e5 h5 => rr v' H' e5 h5⟩
        | _ + 2, hz, _ => exact absurd hz (by simp)
      · obtain ⟨z1, r1, rfl, d1, hacc⟩ := dpa_cons hacc
        obtain ⟨z2, r2, rfl, d2, hacc⟩ := dpa_cons hacc
        cases dpa_nil hacc
        have e4 := e2.trans e3
        refine c_nil ⟨D, _, rfl, .inl ⟨SqL.of hD3, fun t ht => ?_⟩⟩
        have e5 := e4.trans (same_new (o := .tup [z1, z2]) ht)
        refine r_catA (same_tup e5 h1) (SqT.of upd_same) (by simp) fun p3 H4 e6 h3 => ?_
        have e7 := (same_new (o := .tup [z1, z2]) ht).trans e6
        exact q _ _ (e1.trans (e5.trans e6)) (.tup h3 (.cons (.str _) (.cons (dp_mono e7 d1) (.cons (dp_mono e7 d2) .nil))))
theorem ok_Lshape_part (T : Tx K mg ad fd cL cT cN cB) : ∀ d, FnOk P w K mg base CX0 (d + 2) (ad 50) (fd 50) ["part", "words", "hands", "now"] (spShPart K d)
  | 0 => none_left fun vs H Q E h => by
    obtain ⟨v, dw, dh, nl, n, m, r, h, a, b, p, xs, js, hd, _, _, _, _, _, _, _, _, _, h, _⟩ := h
    have := nst_pos p
    omega
  | d + 1 => by
    have G_Lshape_part := ok_Lshape_part T d
    have G_Lshape_term := ok_Lshape_term (P := P) (w := w) (base := base) T 2
    refine T.F_Lshape_part.ok sc_Lshape_part (fun vs H Q E h => ?_) (fun cdv A outer s H vs Q E hr h => ?_)
    · obtain ⟨v, dw, dh, nl, n, m, r, h, a, b, p, xs, js, hd, rfl, _⟩ := h
      rfl
    obtain ⟨v, dw, dh, nl, n, m, r, h, a, b, p, xs, js, hd, rfl, hv, hw, hh, hnl, hwf, hcx, hcj, har, hn, hb1, hb2, q⟩ := h
    refine ⟨_, (pss_cons (ps_if (pt_cmpR op_eq (pe_ix ix_tup (pv 0) pe_int (fun _ _ => rfl)) pe_str (nomark _)) (pss_one (ps_ret (pe_tup (pa_cons pe_str (pa_cons (pe_dget (hu_of hr) (pv 2) (pe_ix ix_tup (pv 0) pe_int (fun _ _ => rfl)) (fun _ _ => rfl)) (pa_cons (pe_call G_Lshape_term (hr.mono (by first | decide | omega)) (by rfl) T.m_Lshape_term T.F_Lshape_term.kp (b_Lshape_term T) .nil pass0 (pa_cons (pe_ix ix_tup (pv 0) pe_int (fun _ _ => rfl)) (pa_cons (pv 1) pa_nil))) pa_nil)))))) pss_nil)
    (pss_cons (ps_if (pt_cmpR op_eq (pe_ix ix_tup (pv 0) pe_int (fun _ _ => rfl)) pe_str (nomark _)) (pss_one (ps_ret (pe_tup (pa_cons pe_str (pa_cons (pe_ix ix_tup (pv 0) pe_int (fun _ _ => rfl)) (pa_cons (pe_callTy (T := "tuple") call_tuple_of (by rfl) T.z_tuple (by decide +kernel) (pa_cons (pe_lc (own := [("one", 4)]) (by rfl) sc_Lshape_part.nd (pi_tup (pe_ix ix_tup (pv 0) pe_int (fun _ _ => rfl))) (blkOk_by (own := [("one", 4)]) (N := ["part", "words", "hands", "now", "one", "choice", "inner", "x", "term", "posts"]) (sc := defScope s_Lshape_part) (by decide +kernel)) (fun _ _ _ _ _ => (pg_name (i := 4) sc_Lshape_part.nd rfl (Or.inl rfl))) (fun _ _ _ _ _ => pts_nil) (fun _ _ _ _ _ => (pe_call G_Lshape_term (hr.mono (by first | decide | omega)) (by rfl) T.m_Lshape_term T.F_Lshape_term.kp (b_Lshape_term T) .nil pass0 (pa_cons (pv 4) (pa_cons (pv 1) pa_nil))))) pa_nil)) (pa_cons (pe_dget (hu_of hr) (pv 2) (pe_ix ix_tup (pv 0) pe_int (fun _ _ => rfl)) (fun _ _ => rfl)) pa_nil))))))) pss_nil)
    (pss_cons (ps_if (pt_cmpR op_eq (pe_ix ix_tup (pv 0) pe_int (fun _ _ => rfl)) pe_str (nomark _)) (pss_cons (ps_set (i := 5) sc_Lshape_part.nd rfl (Or.inl rfl) (pe_call G_Lshape_term (hr.mono (by first | decide | omega)) (by rfl) T.m_Lshape_term T.F_Lshape_term.kp (b_Lshape_term T) .nil pass0 (pa_cons (pe_ix ix_tup (pv 0) pe_int (fun _ _ => rfl)) (pa_cons (pv 1) pa_nil))))
    (pss_cons (ps_set (i := 4) sc_Lshape_part.nd rfl (Or.inl rfl) (pe_call G_Lshape_part (hr.mono (by first | decide | omega)) (by rfl) T.m_Lshape_part T.F_Lshape_part.kp (b_Lshape_part T) .nil pass0 (pa_cons (pe_ix ix_tup (pv 0) pe_int (fun _ _ => rfl)) (pa_cons (pv 1) (pa_cons (pv 2) (pa_cons (pv 3) pa_nil))))))
    (pss_one (ps_ret (pe_tup (pa_cons pe_str (pa_cons (pv 5) (pa_cons (pv 4) (pa_cons (pe_call G_Lshape_part (hr.mono (by first | decide | omega)) (by rfl) T.m_Lshape_part T.F_Lshape_part.kp (b_Lshape_part T) .nil pass0 (pa_cons (pe_ix ix_tup (pv 0) pe_int (fun _ _ => rfl)) (pa_cons (pv 1) (pa_cons (pv 2) (pa_cons (pv 3) pa_nil))))) pa_nil))))))))) pss_nil)
    (pss_cons (ps_set (i := 6) sc_Lshape_part.nd rfl (Or.inl rfl) (pe_callTy (T := "dict") call_dictOf (by rfl) T.z_dict (by decide +kernel) (pa_cons (pv 1) pa_nil)))
    (pss_cons (ps_set (i := 7) sc_Lshape_part.nd rfl (Or.inl rfl) (pe_ix ix_tup (pv 0) (pe_op op_add pe_int (pe_callTy (T := "int") call_int1 (by rfl) T.z_int (by decide +kernel) (pa_cons (pe_cmpR op_eq (pe_ix ix_tup (pv 0) pe_int (fun _ _ => rfl)) pe_str (nomark _)) pa_nil))) (fun _ _ => rfl)))
    (pss_cons (ps_dput (hu_of hr) (pv 6) (pv 7) (pe_ix ix_list (pv 3) pe_int (fun _ _ => rfl)) rfl)
    (pss_cons (ps_asg (pe_op op_add (pe_ix ix_list (pv 3) pe_int (fun _ _ => rfl)) pe_int) (pg_sub (pv 3) pe_int set_list))
    (pss_cons (ps_if (pt_cmpR op_ne (pe_ix ix_tup (pv 0) pe_int (fun _ _ => rfl)) pe_str (nomark _)) (pss_cons (ps_set (i := 8) sc_Lshape_part.nd rfl (Or.inl rfl) (pe_call G_Lshape_term (hr.mono (by first | decide | omega)) (by rfl) T.m_Lshape_term T.F_Lshape_term.kp (b_Lshape_term T) .nil pass0 (pa_cons (pe_ix ix_tup (pv 0) pe_int (fun _ _ => rfl)) (pa_cons (pv 1) pa_nil))))
    (pss_one (ps_ret (pe_tup (pa_cons (pe_ix ix_tup (pv 0) pe_int (fun _ _ => rfl)) (pa_cons (pe_dget (hu_of hr) (pv 6) (pv 7) (fun _ _ => rfl)) (pa_cons (pv 8) (pa_cons (pe_call G_Lshape_part (hr.mono (by first | decide | omega)) (by rfl) T.m_Lshape_part T.F_Lshape_part.kp (b_Lshape_part T) .nil pass0 (pa_cons (pe_ix ix_tup (pv 0) pe_int (fun _ _ => rfl)) (pa_cons (pv 6) (pa_cons (pv 2) (pa_cons (pv 3) pa_nil))))) pa_nil)))))))) pss_nil)
    (pss_cons (ps_set (i := 9) sc_Lshape_part.nd rfl (Or.inl rfl) (pe_callTy (T := "dict") call_dictOf (by rfl) T.z_dict (by decide +kernel) (pa_cons (pv 2) pa_nil)))
    (pss_cons (ps_dput (hu_of hr) (pv 9) (pe_ix ix_tup (pv 0) pe_int (fun _ _ => rfl)) (pe_ix ix_list (pv 3) pe_int (fun _ _ => rfl)) rfl)
    (pss_cons (ps_asg (pe_op op_add (pe_ix ix_list (pv 3) pe_int (fun _ _ => rfl)) pe_int) (pg_sub (pv 3) pe_int set_list))
    (pss_cons (ps_set (i := 4) sc_Lshape_part.nd rfl (Or.inl rfl) (pe_call G_Lshape_part (hr.mono (by first | decide | omega)) (by rfl) T.m_Lshape_part T.F_Lshape_part.kp (b_Lshape_part T) .nil pass0 (pa_cons (pe_ix ix_tup (pv 0) pe_int (fun _ _ => rfl)) (pa_cons (pv 6) (pa_cons (pv 2) (pa_cons (pv 3) pa_nil))))))
    (pss_one (ps_ret (pe_tup (pa_cons pe_str (pa_cons (pe_dget (hu_of hr) (pv 9) (pe_ix ix_tup (pv 0) pe_int (fun _ _ => rfl)) (fun _ _ => rfl)) (pa_cons (pe_dget (hu_of hr) (pv 6) (pv 7) (fun _ _ => rfl)) (pa_cons (pv 4) (pa_cons (pe_call G_Lshape_part (hr.mono (by first | decide | omega)) (by rfl) T.m_Lshape_part T.F_Lshape_part.kp (b_Lshape_part T) .nil pass0 (pa_cons (pe_ix ix_tup (pv 0) pe_int (fun _ _ => rfl)) (pa_cons (pv 1) (pa_cons (pv 9) (pa_cons (pv 3) pa_nil))))) pa_nil)))))))))))))))))))), ?_⟩
    have mnl : MutS (fun b => b = nl) H := mutS1 (by rw [hnl]; trivial)
    cases p with
    | give j s =>
      obtain ⟨a', x, rfl, hS, hx⟩ := pp_give hv
      obtain ⟨kj, hj⟩ := hcj j hwf.2.2
      refine st_seq (st_yes (a_eq (v_ixT (val_var rfl) val_c hS rfl) val_c rfl (by decide +kernel)) ?_)
      refine c_ret (c_tup' (c_cons (c_val val_c (c_cons (c_val (v_dget (val_var rfl) (v_ixT (val_var rfl) val_c hS rfl) hh (v := hvV kj) (by rw [hj]; rfl)) (c_cons ?_))))))
      refine c_call (va_cons (v_ixT (val_var rfl) val_c hS rfl) (va_cons (val_var rfl) va_nil)) ⟨x, dw, n, r, s, rfl, hx, hw, ⟨xs, hwf.1, hcx⟩, hwf.2.1, fun v' H1 e1 d1 => c_nil ⟨sz_of (by simp), fun pg hpg => ?_⟩⟩
      have e2 := same_new (o := .tup [V.str "give", hvV kj, v']) hpg
      refine q _ _ (But.of (e1.trans e2)) ((e1.trans e2) _ _ hnl) ?_
      show Dp K _ _ (.tuple [.str "give", hvD ((h j).getD none), encTn (rnum r s)])
      rw [hj]
      exact .tup (SqT.of upd_same) (.cons (.str _) (.cons (dp_hv kj) (.cons (dp_mono e2 d1) .nil)))
    | ask f ss j =>
      obtain ⟨a', t, ys, rfl, hS, ht, hx⟩ := pp_ask hv
      obtain ⟨kj, hj⟩ := hcj j hwf.2.2
      have lys : ys.length = ss.length := by rw [dpa_length hx, List.length_map]
      have hs10 := har _ _ hwf.2.1
      refine sq_no (a_eq (v_ixT (val_var rfl) val_c hS rfl) val_c rfl (by decide +kernel)) ?_
      refine st_seq (st_yes (a_eq (v_ixT (val_var rfl) val_c hS rfl) val_c rfl (by decide +kernel)) ?_)
      refine c_ret (c_tup' (c_cons (c_val val_c (c_cons (c_val (v_ixT (val_var rfl) val_c hS rfl) (c_cons (c_cbL (c_cons ?_))))))))
      refine v_ixT (val_var rfl) val_c hS rfl _ ⟨t, rfl, ⟨_, ht⟩, fun D hD => ?_⟩
      refine lc_mapT hD ht ((ss.map (rnum r)).map encTn) (by rw [List.length_map, List.length_map, lys]) (noLs_Tn _) (by omega) (fun i x' d' H' R hxi hdi e3 rr => ?_) (fun H3 acc e3 hD3 hacc => ?_) (fun x σ H P R m h => m _ _ h)
      · have hi : i < ss.length := by
          rw [← lys]
          exact (List.getElem?_eq_some_iff.mp hxi).1
        have hsi : ss[i]? = some ss[i] := List.getElem?_eq_getElem hi
        rw [List.getElem?_map, List.getElem?_map, hsi] at hdi
        cases hdi
        obtain ⟨x2, y1, y2⟩ := dpa_get hx (d := encT ss[i]) (i := i) (by rw [List.getElem?_map, hsi]; rfl)
        rw [hxi] at y1
        cases y1
        have hw' := hwf.1 _ (List.getElem_mem hi)
        exact ⟨rfl, c_call (va_cons (val_var rfl) (va_cons (val_var rfl) va_nil)) ⟨x', dw, n, r, ss[i], rfl, dp_mono e3 y2, hw.mono e3, ⟨xs, hw'.1, hcx⟩, hw'.2, fun v' H4 e4 h4 => rr _ _ e4 h4⟩⟩
      · refine c_nil ⟨D, _, rfl, .inl ⟨SqL.of hD3, fun tp htp => ?_⟩⟩
        have e4 := same_new (o := .tup acc) htp
        have e34 := e3.trans e4
        refine c_cons (c_val (v_dget (val_var rfl) (v_ixT (val_var rfl) val_c (same_tup e34 hS) rfl) (hh.mono e34) (v := hvV kj) (by rw [hj]; rfl)) (c_nil ⟨sz_of (by simp), fun pg hpg => ?_⟩))
        have e5 := same_new (o := .tup [V.str "ask", V.str f, V.ref tp, hvV kj]) hpg
        refine q _ _ (But.of (e34.trans e5)) ((e34.trans e5) _ _ hnl) ?_
        show Dp K _ _ (.tuple [.str "ask", .str f, .tuple ((ss.map (rnum r)).map encTn), hvD ((h j).getD none)])
        rw [hj]
        exact .tup (SqT.of upd_same) (.cons (.str _) (.cons (.str _) (.cons (.tup (same_tup e5 (SqT.of upd_same)) (dpa_mono (e4.trans e5) hacc)) (.cons (dp_hv kj) .nil))))
    | ite s T1 U =>
      obtain ⟨a', x, y, z, rfl, hS, hx, hy, hz⟩ := pp_ite hv
      simp only [nst] at hn
      refine sq_no (a_eq (v_ixT (val_var rfl) val_c hS rfl) val_c rfl (by decide +kernel)) ?_
      refine sq_no (a_eq (v_ixT (val_var rfl) val_c hS rfl) val_c rfl (by decide +kernel)) ?_
      refine st_seq (st_yes (a_eq (v_ixT (val_var rfl) val_c hS rfl) val_c rfl (by decide +kernel)) ?_)
      refine sq_setC (c_call (va_cons (v_ixT (val_var rfl) val_c hS rfl) (va_cons (val_var rfl) va_nil)) ⟨x, dw, n, r, s, rfl, hx, hw, ⟨xs, hwf.1, hcx⟩, hwf.2.1, fun v1 H1 e1 d1 => ?_⟩)
      refine sq_setC (c_call (va_cons (v_ixT (val_var rfl) val_c (same_tup e1 hS) rfl) (va_cons (val_var rfl) (va_cons (val_var rfl) (va_cons (val_var rfl) va_nil)))) ⟨y, dw, dh, nl, n, m, r, h, a, b, T1, xs, js, hd, rfl, dp_mono e1 hy, hw.mono e1, hh.mono e1, e1 _ _ hnl, hwf.2.2.1, hcx, hcj, har, by omega, by omega, by omega, fun v2 H2 b2 hnl2 d2 => ?_⟩)
      have b12 := (But.of (S := fun b => b = nl) e1).trans b2
      have hS2 := but_tup b12 mnl hS
      refine c_ret (c_tup' (c_cons (c_val val_c (c_cons (c_val (val_var rfl) (c_cons (c_val (val_var rfl) (c_cons ?_))))))))
      refine c_call (va_cons (v_ixT (val_var rfl) val_c hS2 rfl) (va_cons (val_var rfl) (va_cons (val_var rfl) (va_cons (val_var rfl) va_nil)))) ⟨z, dw, dh, nl, n, m, r, h, _, _, U, xs, js, hd, rfl, but_dp b12 mnl (noL_P _) hz, hw.butL hnl b12, hh.butL hnl b12, hnl2, hwf.2.2.2, hcx, hcj, har, by omega, by omega, by omega, fun v3 H3 b3 hnl3 d3 => c_nil ⟨sz_of (by simp), fun p hp => ?_⟩⟩
      have e4 := same_new (o := .tup [V.str "if", v1, v2, v3]) hp
      have mnl2 : MutS (fun b => b = nl) H2 := mutS1 (by rw [hnl2]; trivial)
      have mnl1 : MutS (fun b => b = nl) H1 := mutS_same mnl e1
      refine q _ _ (b12.trans (b3.trans (But.of e4))) (e4 _ _ hnl3) ?_
      exact .tup (SqT.of upd_same) (.cons (.str _) (.cons (but_dp (b2.trans (b3.trans (But.of e4))) mnl1 (noL_Tn _) d1) (.cons (but_dp (b3.trans (But.of e4)) mnl2 (noL_Sh _) d2) (.cons (dp_mono e4 d3) .nil))))
    | st tl x s T1 =>
      obtain ⟨a', y, z, rfl, hS, hy, hz⟩ := pp_st hv
      simp only [nst] at hn
      refine sq_no (a_eq (v_ixT (val_var rfl) val_c hS rfl) val_c rfl (kwS_ne (by decide +kernel) (by decide +kernel))) ?_
      refine sq_no (a_eq (v_ixT (val_var rfl) val_c hS rfl) val_c rfl (kwS_ne (by decide +kernel) (by decide +kernel))) ?_
      refine sq_no (a_eq (v_ixT (val_var rfl) val_c hS rfl) val_c rfl (kwS_ne (by decide +kernel) (by decide +kernel))) ?_
      refine sq_setC (c_dictOf (val_var rfl) hw fun pd kvs hpd hk => ?_)
      have e1 := same_new (o := .dK kvs) hpd
      have ndn : pd ≠ nl := fun z => by rw [z, hnl] at hpd; cases hpd
      refine sq_set (v_ixT (v := .str x) (val_var rfl) (v_is (v_I0 val_c (v_int_bl (v_is (v_eq (v_ixT (val_var rfl) val_c (same_tup e1 hS) rfl) val_c rfl) (show _ = V.bl false by cases tl <;> decide +kernel)))) rfl) (same_tup e1 hS) (atI_nat (j := 1) rfl)) ?_
      refine sq_dput (v_ixL (val_var rfl) val_c (SqL.of (e1 _ _ hnl)) rfl) (val_var rfl) (val_var rfl) hk (by omega) fun kvs2 hk2 => ?_
      rw [upd_upd] at hk2 ⊢
      have e2 := same_new (o := .dK kvs2) hpd
      refine st_seq (v_I0 (v_ixL (val_var rfl) val_c (SqL.of (e2 _ _ hnl)) rfl) val_c _ (c_val (val_var rfl) (c_val val_c ⟨nl, _, 0, 0, rfl, rfl, e2 _ _ hnl, rfl, ?_⟩)))
      have b3 : But (fun b => b = nl) H (upd (upd H pd (.dK kvs2)) nl (.lst ([V.int a, V.int b].set 0 (.int ((a : Int) + 1))))) := (But.of e2).trans (But.mut rfl)
      have hk3 := (hk2.upd_ne' (o := .lst ([V.int a, V.int b].set 0 (.int ((a : Int) + 1)))) ndn).ext (fun y => fset_map (h := fun k : Nat => V.int (k : Nat)) (ws := r) (x := x) (w := a) y)
      have hnl3 : upd (upd H pd (.dK kvs2)) nl (.lst ([V.int a, V.int b].set 0 (.int ((a : Int) + 1)))) nl = some (.lst [.int ((a + 1 : Nat) : Int), .int b]) := upd_same
      generalize upd (upd H pd (.dK kvs2)) nl (.lst ([V.int a, V.int b].set 0 (.int ((a : Int) + 1)))) = H3 at *
      have hS3 := but_tup b3 mnl hS
      have m3 : MutS (fun b => b = nl) H3 := mutS1 (by rw [hnl3]; trivial)
      refine st_seq (st_yes (a_ne (v_ixT (val_var rfl) val_c hS3 rfl) val_c rfl (by rw [kwS_post]; rfl)) ?_)
      refine sq_setC (c_call (va_cons (v_ixT (val_var rfl) val_c hS3 rfl) (va_cons (val_var rfl) va_nil)) ⟨y, dw, n, r, s, rfl, but_dp b3 mnl (noL_T _) hy, hw.butL hnl b3, ⟨xs, hwf.1, hcx⟩, hwf.2.1, fun v4 H4 e4 d4 => ?_⟩)
      have b4 := b3.trans (But.of (S := fun b => b = nl) e4)
      refine c_ret (c_tup' (c_cons (c_val (v_ixT (val_var rfl) val_c (same_tup e4 hS3) rfl) (c_cons (c_val (v_dget (val_var rfl) (val_var rfl) (hk3.mono e4) (v := .int (a : Nat)) (by rw [fset_same]; rfl)) (c_cons (c_val (val_var rfl) (c_cons ?_))))))))
      refine c_call (va_cons (v_ixT (val_var rfl) val_c (same_tup e4 hS3) rfl) (va_cons (val_var rfl) (va_cons (val_var rfl) (va_cons (val_var rfl) va_nil)))) ⟨z, pd, dh, nl, n + 1, m, fset r x a, h, a + 1, b, T1, x :: xs, js, hd, rfl, but_dp b4 mnl (noL_P _) hz, hk3.mono e4, hh.butL hnl b4, e4 _ _ hnl3, hwf.2.2, fun y hy => ?_, hcj, har, by omega, by omega, by omega, fun v5 H5 b5 hnl5 d5 => c_nil ⟨sz_of (by simp), fun p hp => ?_⟩⟩
      · by_cases e : y = x
        · exact ⟨a, by rw [e]; exact fset_same⟩
        · rw [fset_ne e]; exact hcx y ((List.mem_cons.mp hy).resolve_left e)
      have e6 := same_new (o := .tup [V.str (kwS tl), V.int a, v4, v5]) hp
      refine q _ _ (b4.trans (b5.trans (But.of e6))) (e6 _ _ hnl5) ?_
      exact .tup (SqT.of upd_same) (.cons (.str _) (.cons (.int _) (.cons (but_dp (b5.trans (But.of e6)) (mutS_same m3 e4) (noL_Tn _) d4) (.cons (dp_mono e6 d5) .nil))))
    | post j x T1 U =>
      obtain ⟨a', y, z, rfl, hS, hy, hz⟩ := pp_post hv
      simp only [nst] at hn
      refine sq_no (a_eq (v_ixT (val_var rfl) val_c hS rfl) val_c rfl (by decide +kernel)) ?_
      refine sq_no (a_eq (v_ixT (val_var rfl) val_c hS rfl) val_c rfl (by decide +kernel)) ?_
      refine sq_no (a_eq (v_ixT (val_var rfl) val_c hS rfl) val_c rfl (by decide +kernel)) ?_
      refine sq_setC (c_dictOf (val_var rfl) hw fun pd kvs hpd hk => ?_)
      have e1 := same_new (o := .dK kvs) hpd
      have ndn : pd ≠ nl := fun z => by rw [z, hnl] at hpd; cases hpd
      refine sq_set (v_ixT (v := .str x) (val_var rfl) (v_is (v_I0 val_c (v_int_bl (v_is (v_eq (v_ixT (val_var rfl) val_c (same_tup e1 hS) rfl) val_c rfl) (show _ = V.bl true by decide +kernel)))) rfl) (same_tup e1 hS) (atI_nat (j := 2) rfl)) ?_
      refine sq_dput (v_ixL (val_var rfl) val_c (SqL.of (e1 _ _ hnl)) rfl) (val_var rfl) (val_var rfl) hk (by omega) fun kvs2 hk2 => ?_
      rw [upd_upd] at hk2 ⊢
      have e2 := same_new (o := .dK kvs2) hpd
      refine st_seq (v_I0 (v_ixL (val_var rfl) val_c (SqL.of (e2 _ _ hnl)) rfl) val_c _ (c_val (val_var rfl) (c_val val_c ⟨nl, _, 0, 0, rfl, rfl, e2 _ _ hnl, rfl, ?_⟩)))
      have b3 : But (fun b => b = nl) H (upd (upd H pd (.dK kvs2)) nl (.lst ([V.int a, V.int b].set 0 (.int ((a : Int) + 1))))) := (But.of e2).trans (But.mut rfl)
      have hk3 := (hk2.upd_ne' (o := .lst ([V.int a, V.int b].set 0 (.int ((a : Int) + 1)))) ndn).ext (fun y => fset_map (h := fun k : Nat => V.int (k : Nat)) (ws := r) (x := x) (w := a) y)
      have hnl3 : upd (upd H pd (.dK kvs2)) nl (.lst ([V.int a, V.int b].set 0 (.int ((a : Int) + 1)))) nl = some (.lst [.int ((a + 1 : Nat) : Int), .int b]) := upd_same
      clear e1 e2 hk hk2 hpd ndn
      generalize upd (upd H pd (.dK kvs2)) nl (.lst ([V.int a, V.int b].set 0 (.int ((a : Int) + 1)))) = H3 at *
      have hS3 := but_tup b3 mnl hS
      have m3 : MutS (fun b => b = nl) H3 := mutS1 (by rw [hnl3]; trivial)
      refine sq_no (a_ne (v_ixT (val_var rfl) val_c hS3 rfl) val_c rfl (by decide +kernel)) ?_
      have hh3 := hh.butL hnl b3
      refine sq_setC (c_dictOf (val_var rfl) hh3 fun qd kv hqd hkh => ?_)
      have e4 := same_new (o := .dK kv) hqd
      have nqn : qd ≠ nl := fun z => by rw [z, hnl3] at hqd; cases hqd
      refine sq_dput (v_ixL (val_var rfl) val_c (SqL.of (e4 _ _ hnl3)) rfl) (val_var rfl) (v_ixT (val_var rfl) val_c (same_tup e4 hS3) rfl) hkh (by omega) fun kv2 hkh2 => ?_
      rw [upd_upd] at hkh2 ⊢
      have e5 := same_new (o := .dK kv2) hqd
      refine st_seq (v_I0 (v_ixL (val_var rfl) val_c (SqL.of (e5 _ _ hnl3)) rfl) val_c _ (c_val (val_var rfl) (c_val val_c ⟨nl, _, 1, 1, rfl, rfl, e5 _ _ hnl3, rfl, ?_⟩)))
      have b6 : But (fun b => b = nl) H3 (upd (upd H3 qd (.dK kv2)) nl (.lst ([V.int ((a + 1 : Nat) : Int), V.int b].set 1 (.int ((b : Int) + 1))))) := (But.of e5).trans (But.mut rfl)
      have hkh6 : DK (upd (upd H3 qd (.dK kv2)) nl (.lst ([V.int ((a + 1 : Nat) : Int), V.int b].set 1 (.int ((b : Int) + 1))))) qd (m + 1) (fun k => (fset h j (some b) k).map hvV) := (hkh2.upd_ne' (o := .lst ([V.int ((a + 1 : Nat) : Int), V.int b].set 1 (.int ((b : Int) + 1)))) nqn).ext (fun y => fset_map (h := hvV) (ws := h) (x := j) (w := some b) y)
      have hnl6 : upd (upd H3 qd (.dK kv2)) nl (.lst ([V.int ((a + 1 : Nat) : Int), V.int b].set 1 (.int ((b : Int) + 1)))) nl = some (.lst [.int ((a + 1 : Nat) : Int), .int ((b + 1 : Nat) : Int)]) := upd_same
      clear e4 e5 hkh hkh2 hqd nqn
      generalize upd (upd H3 qd (.dK kv2)) nl (.lst ([V.int ((a + 1 : Nat) : Int), V.int b].set 1 (.int ((b : Int) + 1)))) = H6 at *
      have b06 := b3.trans b6
      have hS6 := but_tup b06 mnl hS
      have hk6 := hk3.butL hnl3 b6
      refine sq_setC (c_call (va_cons (v_ixT (val_var rfl) val_c hS6 rfl) (va_cons (val_var rfl) (va_cons (val_var rfl) (va_cons (val_var rfl) va_nil)))) ⟨y, pd, dh, nl, n + 1, m, fset r x a, h, a + 1, b + 1, T1, x :: xs, js, hd, rfl, but_dp b06 mnl (noL_P _) hy, hk6, hh.butL hnl b06, hnl6, hwf.2.1, fun y hy => ?_, hcj, har, by omega, by omega, by omega, fun v7 H7 b7 hnl7 d7 => ?_⟩)
      · by_cases e : y = x
        · exact ⟨a, by rw [e]; exact fset_same⟩
        · rw [fset_ne e]; exact hcx y ((List.mem_cons.mp hy).resolve_left e)
      have b07 := b06.trans b7
      have hS7 := but_tup b07 mnl hS
      have hkh7 := hkh6.butL hnl6 b7
      have hk7 := hk6.butL hnl6 b7
      refine c_ret (c_tup' (c_cons (c_val val_c (c_cons (c_val (v_dget (val_var rfl) (v_ixT (val_var rfl) val_c hS7 rfl) hkh7 (v := .int (b : Nat)) (by rw [fset_same]; rfl)) (c_cons (c_val (v_dget (val_var rfl) (val_var rfl) hk7 (v := .int (a : Nat)) (by rw [fset_same]; rfl)) (c_cons (c_val (val_var rfl) (c_cons ?_))))))))))
      refine c_call (va_cons (v_ixT (val_var rfl) val_c hS7 rfl) (va_cons (val_var rfl) (va_cons (val_var rfl) (va_cons (val_var rfl) va_nil)))) ⟨z, dw, qd, nl, n, m + 1, r, fset h j (some b), _, _, U, xs, j :: js, hd, rfl, but_dp b07 mnl (noL_P _) hz, hw.butL hnl b07, hkh7, hnl7, hwf.2.2, hcx, fun k hk => ?_, har, by omega, by omega, by omega, fun v8 H8 b8 hnl8 d8 => c_nil ⟨sz_of (by simp), fun p hp => ?_⟩⟩
      · by_cases e : k = j
        · exact ⟨some b, by rw [e]; exact fset_same⟩
        · rw [fset_ne e]; exact hcj k ((List.mem_cons.mp hk).resolve_left e)
      have e9 := same_new (o := .tup [V.str "post", V.int b, V.int a, v7, v8]) hp
      have m7 : MutS (fun b => b = nl) H7 := mutS1 (by rw [hnl7]; trivial)
      refine q _ _ (b07.trans (b8.trans (But.of e9))) (e9 _ _ hnl8) ?_
      exact .tup (SqT.of upd_same) (.cons (.str _) (.cons (.int _) (.cons (.int _) (.cons (but_dp (b8.trans (But.of e9)) m7 (noL_Sh _) d7) (.cons (dp_mono e9 d8) .nil)))))
end
end Wn
end
section
set_option Elab.async false
set_option linter.all false
set_option maxRecDepth 100000
set_option maxHeartbeats 4000000
namespace Wn
open PySem PySem.Spec PyProof.Rows L2
def rcStep (p : (Str → Option Nat) × Nat) (w : Str) : (Str → Option Nat) × Nat := (fset p.1 w p.2, if p.1 w = none then p.2 + 1 else p.2)
def rc (ns : List Str) : (Str → Option Nat) × Nat := ns.foldl rcStep (fun _ => none, 0)
theorem rc_snoc (ns : List Str) (w : Str) : rc (ns ++ [w]) = rcStep (rc ns) w := by
  unfold rc
  rw [List.foldl_append]; rfl
theorem rc_mem : ∀ (n : Nat) (ns : List Str), ns.length = n → ∀ x ∈ ns, ∃ k, (rc ns).1 x = some k
  | 0, ns, hl, x, hx => by
    rw [List.length_eq_zero_iff.mp hl] at hx
    cases hx
  | n + 1, ns, hl, x, hx => by
    have hne : ns ≠ [] := fun z => by rw [z] at hl; cases hl
    have e := (List.dropLast_concat_getLast hne).symm
    rw [e] at hx ⊢
    rw [rc_snoc]
    show ∃ k, fset (rc ns.dropLast).1 (ns.getLast hne) _ x = some k
    by_cases ex : x = ns.getLast hne
    · exact ⟨_, by rw [ex]; exact fset_same⟩
    · rw [fset_ne ex]
      refine rc_mem n ns.dropLast (by rw [List.length_dropLast]; omega) x ?_
      exact (List.mem_append.mp hx).resolve_right fun z => ex (List.mem_singleton.mp z)
theorem rc_le : ∀ (n : Nat) (ns : List Str), ns.length = n → (rc ns).2 ≤ n
  | 0, ns, hl => by rw [List.length_eq_zero_iff.mp hl]; exact Nat.le_refl _
  | n + 1, ns, hl => by
    have hne : ns ≠ [] := fun z => by rw [z] at hl; cases hl
    have e := (List.dropLast_concat_getLast hne).symm
    rw [e, rc_snoc]
    have := rc_le n ns.dropLast (by rw [List.length_dropLast]; omega)
    show (if (rc ns.dropLast).1 (ns.getLast hne) = none then (rc ns.dropLast).2 + 1 else (rc ns.dropLast).2) ≤ n + 1
    by_cases h : (rc ns.dropLast).1 (ns.getLast hne) = none
    · rw [if_pos h]; exact Nat.succ_le_succ this
    · rw [if_neg h]; exact Nat.le_succ_of_le this
def h0 : Str → Option (Option Nat) := fun k => if k = "home" then some none else none
def shE (e : Er) : PyData := .tuple [.str e.1, .int (e.2.1.length : Nat), encSh (shp e.2.2 (rc e.2.1).1 h0 (rc e.2.1).2 0).1]
def encShp (bk : List Er) : PyData := .list (bk.map shE)
theorem noL_shE (e : Er) : noL (shE e) := ⟨trivial, trivial, noL_Sh _, trivial⟩
theorem noLs_shE : ∀ l : List Er, noLs (l.map shE)
  | [] => trivial
  | e :: r => ⟨noL_shE e, noLs_shE r⟩
theorem any_none : ∀ {kvs : List (Key × V)} {k : Key}, valV kvs k = none → (kvs.any fun kv => decide (kv.1 = k)) = false
  | [], _, _ => rfl
  | p :: r, k, h => by
    by_cases e : p.1 = k
    · rw [valV_pos e] at h; cases h
    · rw [valV_neg e] at h
      rw [List.any_cons, any_none h, Bool.or_false]
      exact decide_eq_false e
theorem putK_len {kvs : List (Key × V)} {k : Key} {v : V} : (putK kvs k v).length = if valV kvs k = none then kvs.length + 1 else kvs.length := by
  unfold putK
  cases h : valV kvs k with
  | none => rw [if_neg (by rw [any_none h]; simp), if_pos rfl, List.length_append]; rfl
  | some w => rw [if_pos (valV_any h), if_neg (by simp), List.length_map]
/-- a dict of words and their numbers, its length known -/
def DN (H : Hp) (d : Addr) (p : (Str → Option Nat) × Nat) : Prop := ∃ kvs, H d = some (.dK kvs) ∧ kvs.length = p.2 ∧ ∀ x, valV kvs (.inr x) = rV p.1 x
theorem DN.put {H : Hp} {d : Addr} {p : (Str → Option Nat) × Nat} {w : Str} {R : Hp → Prop} (h : DN H d p) (l : p.2 < 1000) (q : ∀ kvs, DN (upd H d (.dK kvs)) d (rcStep p w) → R (upd H d (.dK kvs))) : ∃ a H4, V.ref d = .ref a ∧ DPut H a (.str w) (.int (p.2 : Nat)) H4 ∧ R H4 := by
  obtain ⟨kvs, a, b, c⟩ := h
  refine ⟨d, _, rfl, DPut.k (k := Sum.inr w) a (by rw [b]; exact Nat.lt_trans l (by decide)), q (putK kvs (Sum.inr w) (.int (p.2 : Nat))) ⟨_, upd_same, ?_, fun x => ?_⟩⟩
  · rw [putK_len, c, b]
    show _ = if p.1 w = none then p.2 + 1 else p.2
    cases hw : p.1 w with
    | none => simp [rV, hw]
    | some k => simp [rV, hw]
  · rw [valV_put]
    show _ = (fset p.1 w p.2 x).map _
    by_cases e : x = w
    · rw [if_pos (by rw [e]), e, fset_same]; rfl
    · rw [if_neg (fun z => e (Sum.inr.inj z)), fset_ne e, c]
def spShape (K : PySem.W.Frag) (d : Nat) : Sp := fun vs H Q _ => ∃ (v : V) (bk : List Er) (hd : Str → Option Nat), vs = [v] ∧ Dp K H v (encBk bk) ∧ bk.length ≤ 10 ∧ (∀ e ∈ bk, e.2.1.length ≤ 4 ∧ WFp ("home" : Str) hd 2 e.2.1 ["home"] e.2.2 ∧ nst e.2.2 ≤ d) ∧ (∀ f n, hd f = some n → n ≤ 10) ∧ d ≤ 80 ∧ ∀ v' H', Same H H' → Dp K H' v' (encShp bk) → Q v' H'
def FRun (K : PySem.W.Frag) (H : Hp) (bk : List Er) (x : V) : Prop := ∃ (p na : Addr) (e : Er) (ns : List Int) (most : Nat), x = .ref p ∧ SqT K H p [.str e.1, .ref na, .int most] ∧ SqT K H na (ns.map .int) ∧ e ∈ bk ∧ ns.length = e.2.1.length ∧ most ≤ 40
def spFirst (K : PySem.W.Frag) : Sp := fun vs H Q _ => ∃ (sa : Addr) (ns : List Int) (v : V) (bk : List Er), vs = [.ref sa, v] ∧ SqL K H sa (ns.map .int) ∧ Dp K H v (encBk bk) ∧ bk.length ≤ 10 ∧ (∀ e ∈ bk, e.2.1.length ≤ 4) ∧ ∀ fl H' acc, Same H H' → H' fl = some (.lst acc) → (∀ x ∈ acc, FRun K H' bk x) → Q (.ref fl) H'
section
variable {P : Program} {w : World} {K : PySem.W.Frag} {mg : Str → Option Value} {base : Heap} {ad : Nat → Addr} {fd : Nat → FuncData} {cL cT cN cB : Addr}
theorem ok_Lshape (T : Tx K mg ad fd cL cT cN cB) (d : Nat) : FnOk P w K mg base CX0 (d + 3) (ad 51) (fd 51) ["turned"] (spShape K d) := by
  have G_Lshape_part := ok_Lshape_part (P := P) (w := w) (base := base) T d
  refine T.F_Lshape.ok sc_Lshape (fun vs H Q E h => ?_) (fun cdv A outer s H vs Q E hr h => ?_)
  · obtain ⟨v, bk, hd, rfl, _⟩ := h
    rfl
  obtain ⟨v, bk, hd, rfl, hv, hlen, hbk, har, hd80, q⟩ := h
  obtain ⟨a, xs, rfl, hS, hx⟩ := dp_tup hv
  have lx : xs.length = bk.length := by rw [dpa_length hx, List.length_map]
  refine ⟨_, (pss_cons (ps_set (i := 1) sc_Lshape.nd rfl (Or.inl rfl) (pe_lst pa_nil))
    (pss_cons (ps_for PassesOwn.never rfl (pi_tup (pv 0)) (pg_tup (by rfl) (pgs_cons (pg_name (i := 2) sc_Lshape.nd rfl (Or.inl rfl)) (pgs_cons (pg_name (i := 3) sc_Lshape.nd rfl (Or.inl rfl)) (pgs_cons (pg_name (i := 4) sc_Lshape.nd rfl (Or.inl rfl)) pgs_nil))))
    (pss_cons (ps_set (i := 5) sc_Lshape.nd rfl (Or.inl rfl) pe_dnewK)
    (pss_cons (ps_for PassesOwn.never rfl (pi_tup (pv 3)) (pg_name (i := 6) sc_Lshape.nd rfl (Or.inl rfl))
    (pss_one (ps_dput (hu_of hr) (pv 5) (pv 6) (pe_callB (id := "len") call_lenD (by rfl) T.z_len (by decide +kernel) (pa_cons (pv 5) pa_nil)) rfl)))
    (pss_one (ps_expr (pe_bm PySem.F.plainAttrs_list PySem.F.slot_list_append PySem.F.type_list_append mt_append (pv 1) (pa_cons (pe_tup (pa_cons (pv 2) (pa_cons (pe_callB (id := "len") call_len_seq (by rfl) T.z_len (by decide +kernel) (pa_cons (pv 3) pa_nil)) (pa_cons (pe_call G_Lshape_part (hr.mono (by first | decide | omega)) (by rfl) T.m_Lshape_part T.F_Lshape_part.kp (b_Lshape_part T) .nil pass0 (pa_cons (pv 4) (pa_cons (pv 5) (pa_cons (pe_disp (pps_cons pe_str pe_str pps_nil) (by rfl) (by rfl) (fun z => by cases z) (by decide)) (pa_cons (pe_lst (pa_cons (pe_callB (id := "len") call_lenD (by rfl) T.z_len (by decide +kernel) (pa_cons (pv 5) pa_nil)) (pa_cons pe_int pa_nil))) pa_nil))))) pa_nil)))) pa_nil)))))))
    (pss_one (ps_ret (pv 1))))), ?_⟩
  refine sq_setC (c_lstV va_nil (by simp) fun f hf => ?_)
  have e0 := same_new (o := .lst []) hf
  have hfl0 : upd H f (.lst []) f = some (.lst []) := upd_same
  generalize upd H f (.lst []) = H0 at *
  refine st_seq ⟨_, rfl, a, rfl, ⟨xs, same_tup e0 hS⟩, for_tup (xs := xs) (fun i σ H' => ∃ (a2 a3 a4 a5 a6 : Option V) (acc : List V), σ = [some (.ref a), some (.ref f), a2, a3, a4, a5, a6] ∧ Same H H' ∧ H' f = some (.lst acc) ∧ DpAll K H' acc ((bk.take i).map shE)) ?_ ?_ ?_ ?_⟩
  · exact ⟨none, none, none, none, none, [], rfl, e0, hfl0, by rw [List.take_zero]; exact .nil⟩
  · rintro i σ H' _ ⟨_, _, _, _, _, _, _, e, _⟩
    exact same_tup e hS
  · rintro i x σ H1 hxi ⟨a2, a3, a4, a5, a6, acc, rfl, e1, hf1, hacc⟩
    have hi : i < bk.length := by
      rw [← lx]
      exact (List.getElem?_eq_some_iff.mp hxi).1
    obtain ⟨e, z1, z2⟩ := er_get hx hxi
    have hm := List.mem_of_getElem? z1
    obtain ⟨ae, te, ze, rfl, hE, hN, hB⟩ := pp_er z2
    obtain ⟨h4, hwf, hns⟩ := hbk e hm
    refine ⟨ae, _, rfl, same_tup e1 hE, rfl, _, _, rfl, _, _, rfl, _, _, rfl, rfl, ?_⟩
    refine sq_setC (fun dw hdw => ?_)
    have e2 := same_new (o := .dK []) hdw
    have hdn0 : DN (upd H1 dw (.dK [])) dw (rc []) := ⟨[], upd_same, rfl, fun _ => rfl⟩
    generalize upd H1 dw (.dK []) = H2 at *
    have lnm : (e.2.1.map V.str).length = e.2.1.length := List.length_map _
    refine st_seq ⟨_, rfl, te, rfl, ⟨_, same_tup (e1.trans e2) hN⟩, for_tup (xs := e.2.1.map V.str) (fun k σ H' => ∃ (b6 : Option V), σ = [some (.ref a), some (.ref f), some (.str e.1), some (.ref te), some ze, some (.ref dw), b6] ∧ Same H1 H' ∧ DN H' dw (rc (e.2.1.take k))) ?_ ?_ ?_ ?_⟩
    · exact ⟨_, rfl, e2, by rw [List.take_zero]; exact hdn0⟩
    · rintro k σ H' _ ⟨_, _, e3, _⟩
      exact same_tup (e1.trans e3) hN
    · rintro k y σ H3 hyk ⟨b6, rfl, e3, hd3⟩
      rw [List.getElem?_map] at hyk
      cases hek : e.2.1[k]? with
      | none => rw [hek] at hyk; cases hyk
      | some wd =>
      rw [hek] at hyk
      cases hyk
      obtain ⟨kvs, w1, w2, w3⟩ := id hd3
      have hle := rc_le _ (e.2.1.take k) rfl
      rw [List.length_take] at hle
      refine en_dputC (c_cb (va_cons (val_var rfl) va_nil) ⟨dw, kvs, rfl, w1, c_val (val_var rfl) (c_val (val_var rfl) ?_)⟩)
      rw [w2]
      refine hd3.put (by omega) fun kvs2 hd4 => ⟨_, rfl, same_drop (But.mut (S := fun b => b = dw) rfl) (fun b hb => by rw [hb]; exact hdw) e3, ?_⟩
      rw [take_snoc hek, rc_snoc]
      exact hd4
    · rintro σ H3 ⟨b6, rfl, e3, hd3⟩
      rw [lnm, List.take_length] at hd3
      dsimp only
      obtain ⟨kvs, w1, w2, w3⟩ := hd3
      have e13 := e1.trans e3
      refine c_drop (c_bm (val_var rfl) ⟨_, SqL.of (e3 _ _ hf1)⟩ (c_cons ?_))
      refine c_tup' (c_cons (c_val (val_var rfl) (c_cons (c_val (v_is (v_len (val_var rfl) (.inr (same_tup e13 hN))) (by rw [lnm])) (c_cons ?_)))))
      refine c_callL (c_cons (c_val (val_var rfl) (c_cons (c_val (val_var rfl) (c_cons fun ph hph => c_val val_c (c_val val_c ⟨upd_same, [(Sum.inr ("home" : Str), V.str "home")], rfl, by simp, ?_⟩))))))
      rw [upd_upd]
      have e4 := same_new (o := .dK (mergeK [] [((Sum.inr ("home" : Str) : Key), V.str "home")])) hph
      have hh4 : DK (upd H3 ph (.dK (mergeK [] [((Sum.inr ("home" : Str) : Key), V.str "home")]))) ph 1 (fun j => (h0 j).map hvV) := ⟨_, upd_same, length_mergeK _ _, fun k => by
        show valV (putK [] (Sum.inr ("home" : Str)) (V.str "home")) (Sum.inr k) = _
        rw [valV_put]
        show _ = (if k = ("home" : Str) then some none else none : Option (Option Nat)).map hvV
        by_cases e : k = ("home" : Str)
        · rw [if_pos (by rw [e]), if_pos e]; rfl
        · rw [if_neg (fun z => e (Sum.inr.inj z)), if_neg e]; rfl⟩
      generalize upd H3 ph (.dK (mergeK [] [((Sum.inr ("home" : Str) : Key), V.str "home")])) = H4 at *
      refine c_cons (c_lst' (c_cons (c_cb (va_cons (val_var rfl) va_nil) ⟨dw, kvs, rfl, e4 _ _ w1, c_cons (c_val val_c (c_nil ⟨sz_of (by simp), fun nl hnl => c_nil ?_⟩))⟩)))
      rw [w2]
      have e5 := same_new (o := .lst [V.int ((rc e.2.1).2 : Nat), V.int 0]) hnl
      have hle := rc_le _ e.2.1 rfl
      have hdk : DK H3 dw 4 (rV (rc e.2.1).1) := ⟨kvs, w1, by omega, w3⟩
      have e45 := e4.trans e5
      refine ⟨ze, dw, ph, nl, 4, 1, (rc e.2.1).1, h0, (rc e.2.1).2, 0, e.2.2, e.2.1, ["home"], hd, rfl, dp_mono (e13.trans e45) hB, hdk.mono e45, hh4.mono e5, upd_same, hwf, rc_mem _ _ rfl, fun j hj => ⟨none, by rw [List.mem_singleton.mp hj]; exact if_pos rfl⟩, har, hns, by omega, by omega, fun v' H6 b6 hnl6 d6 => c_nil ⟨sz_of (by simp), fun pe hpe => c_nil ?_⟩⟩
      have e7 := same_new (o := .tup [.str e.1, .int (e.2.1.length : Nat), v']) hpe
      have nlH1 : H1 nl = none := free_of (fun o ho => ⟨o, (e3.trans e4) _ _ ho⟩) hnl
      have e17 : Same H1 (upd H6 pe (.tup [.str e.1, .int (e.2.1.length : Nat), v'])) := (same_drop b6 (fun b hb => by rw [hb]; exact nlH1) (e3.trans e45)).trans e7
      have hf7 := e17 _ _ hf1
      have lac : acc.length ≤ 10 := by rw [dpa_length hacc, List.length_map, List.length_take]; omega
      refine ⟨f, acc, _, rfl, rfl, hf7, sz_lt (by omega), ?_⟩
      have bm : But (fun b => b = f) (upd H6 pe (.tup [.str e.1, .int (e.2.1.length : Nat), v'])) (upd (upd H6 pe (.tup [.str e.1, .int (e.2.1.length : Nat), v'])) f (.lst (acc ++ [.ref pe]))) := But.mut rfl
      have mm : MutS (fun b => b = f) (upd H6 pe (.tup [.str e.1, .int (e.2.1.length : Nat), v'])) := mutS1 (by rw [hf7]; trivial)
      refine ⟨_, _, _, _, _, acc ++ [.ref pe], rfl, same_drop bm (fun b hb => by rw [hb]; exact hf) (e1.trans e17), upd_same, ?_⟩
      rw [take_snoc z1, List.map_append]
      exact dpa_snoc (but_dpa bm mm (noLs_shE _) (dpa_mono e17 hacc)) (but_dp bm mm (noL_shE _) (.tup (SqT.of upd_same) (.cons (.str _) (.cons (.int _) (.cons (dp_mono e7 d6) .nil)))))
  · rintro σ H1 ⟨a2, a3, a4, a5, a6, acc, rfl, e1, hf1, hacc⟩
    rw [lx, List.take_length] at hacc
    exact st_ret (val_var rfl) (q _ H1 e1 (.lst (SqL.of hf1) hacc))
end
end Wn
end
section
set_option Elab.async false
set_option linter.all false
set_option maxRecDepth 100000
set_option maxHeartbeats 4000000
namespace Wn
open PySem PySem.Spec PyProof.Rows L2
theorem c_lcr {te0 te : TE} {g : TG} {tt : TT} {vs : List Nat} {σ : L2.St} {H : Hp} {Q : VK} {n : Nat} (hv : Val te0 σ H (.int n)) (hn : n ≤ 1000)
    (h : ∀ D, H D = none → ∃ W : Nat → Nat → Hp → Prop, (∃ m, W 0 m (upd H D (.lst []))) ∧ ∀ i m H, W i m H → ((Itr 0 n).stop i H ∧ Q (.ref D) H) ∨ ((Itr 0 n).go i H ∧ ∃ Nx : Hp → Prop, (∀ H', Nx H' → ∃ m', m' < m ∧ W (i + 1) m' H') ∧ ∀ x H', (Itr 0 n).yld i H x H' → g x (wipe σ vs) H' fun σ2 H2 => wipe σ2 vs = wipe σ vs ∧ tt σ2 H2 fun b H3 =>
      if b = true then te σ2 H3 fun y H4 => ∃ acc, H4 D = some (.lst acc) ∧ acc.length < sizeLine ∧ Nx (upd H4 D (.lst (acc ++ [y]))) else Nx H3)) : tLc (iRng1 (tCons te0 tNil)) g tt te vs σ H Q := by
  refine hv _ ⟨(n : Int), rfl, by omega, by omega, ?_⟩
  rw [Int.toNat_natCast]
  exact h
section
variable {P : Program} {w : World} {K : PySem.W.Frag} {mg : Str → Option Value} {base : Heap} {ad : Nat → Addr} {fd : Nat → FuncData} {cL cT cN cB : Addr}
theorem ok_Lnumbers (T : Tx K mg ad fd cL cT cN cB) : FnOk P w K mg base CX0 2 (ad 32) (fd 32) ["tape", "many"] (spNumbers K) := by
  have G_Ldigit := ok_Ldigit (P := P) (w := w) (base := base) T
  refine T.F_Lnumbers.ok sc_Lnumbers (fun vs H Q E h => ?_) (fun cdv A outer s H vs Q E hr h => ?_)
  · obtain ⟨t, m, rfl, _⟩ := h
    rfl
  obtain ⟨t, m, rfl, hT, hm, q⟩ := h
  refine ⟨_, (pss_one (ps_ret (pe_callTy (T := "tuple") call_tuple_of (by rfl) T.z_tuple (by decide +kernel) (pa_cons (pe_lc (own := [("k", 2)]) (by rfl) sc_Lnumbers.nd (pi_range1 (by rfl) T.z_range (pa_cons (pv 1) pa_nil)) (blkOk_by (own := [("k", 2)]) (N := ["tape", "many", "k"]) (sc := defScope s_Lnumbers) (by decide +kernel)) (fun _ _ _ _ _ => (pg_name (i := 2) sc_Lnumbers.nd rfl (Or.inl rfl))) (fun _ _ _ _ _ => pts_nil) (fun _ _ _ _ _ => (pe_ix (ix_listQ (K := K) rfl) (pe_lst (pa_cons pe_int (pa_cons pe_int (pa_cons pe_int (pa_cons pe_int (pa_cons pe_int (pa_cons pe_int (pa_cons pe_int (pa_cons pe_int pa_nil))))))))) (pe_call G_Ldigit (hr.mono (by first | decide | omega)) (by rfl) T.m_Ldigit T.F_Ldigit.kp (b_Ldigit T) .nil pass0 (pa_cons (pv 0) (pa_cons pe_int pa_nil))) (fun _ _ => rfl)))) pa_nil)))), ?_⟩
  refine c_ret (c_cbL (c_cons ?_))
  refine c_lcr (n := m) (val_var rfl) (by omega) fun D hD => ?_
  have nDt : D ≠ t := fun z => by obtain ⟨y, hy⟩ := hT; rw [← z, hD] at hy; cases hy
  refine lc_range (lo := 0) (n := m) (fun i H' => ∃ ns : List Int, BT t H H' ∧ TP H' t ∧ H' D = some (.lst (ns.map .int)) ∧ ns.length = i) ⟨[], But.of (same_new hD), hT.same (same_new hD), upd_same, rfl⟩ (fun i H1 hi ⟨ns, b1, hT1, hD1, hl⟩ => ⟨rfl, ?_⟩) fun H1 ⟨ns, b1, hT1, hD1, hl⟩ => ?_
  · dsimp only [tYes]
    rw [if_pos rfl]
    refine c_digit (ks := [0, 1, 2, 3, 4, 5, 7, 999]) (t := t) (va_cons val_c (va_cons val_c (va_cons val_c (va_cons val_c (va_cons val_c (va_cons val_c (va_cons val_c (va_cons val_c va_nil)))))))) (fun p => va_cons (val_var rfl) (va_cons val_c va_nil)) (by simp) (by simp) hT1 fun k H2 hk f2 hT2 => ?_
    have hD2 := f2 _ _ hD1 nDt
    refine ⟨_, hD2, sz_lt (by rw [List.length_map]; omega), ns ++ [k], ?_, ?_, by rw [upd_same, List.map_append]; rfl, by simp [hl]⟩
    · exact but_drop (S' := fun b => b = D) (But.mut rfl) (fun b hb => .inr (by rw [hb]; exact hD)) (b1.trans fun b o n hb => f2 o b hb n)
    · obtain ⟨z, hz⟩ := hT2
      exact ⟨z, by rw [upd_ne (Ne.symm nDt)]; exact hz⟩
  · refine c_nil ⟨D, _, rfl, .inl ⟨SqL.of hD1, fun p hp => ?_⟩⟩
    have e2 := same_new (o := .tup (ns.map V.int)) hp
    exact q p _ ns (b1.trans (But.of e2)) (hT1.same e2) (SqT.of upd_same) hl
theorem ok_Lfirst_runs (T : Tx K mg ad fd cL cT cN cB) : FnOk P w K mg base CX0 3 (ad 52) (fd 52) ["script", "turned"] (spFirst K) := by
  have G_Ldigit := ok_Ldigit (P := P) (w := w) (base := base) T
  have G_Ltape := ok_Ltape (P := P) (w := w) (base := base) T
  have G_Lnumbers := ok_Lnumbers (P := P) (w := w) (base := base) T
  refine T.F_Lfirst_runs.ok sc_Lfirst_runs (fun vs H Q E h => ?_) (fun cdv A outer s H vs Q E hr h => ?_)
  · obtain ⟨sa, ns, v, bk, rfl, _⟩ := h
    rfl
  obtain ⟨sa, ns, v, bk, rfl, hS, hv, hlen, h4, q⟩ := h
  obtain ⟨a, xs, rfl, hSx, hx⟩ := dp_tup hv
  have lx : xs.length = bk.length := by rw [dpa_length hx, List.length_map]
  refine ⟨_, (pss_cons (ps_set (i := 2) sc_Lfirst_runs.nd rfl (Or.inl rfl) (pe_call G_Ltape (hr.mono (by first | decide | omega)) (by rfl) T.m_Ltape T.F_Ltape.kp (b_Ltape T) .nil pass0 (pa_cons (pv 0) (pa_cons pe_int pa_nil))))
    (pss_cons (ps_set (i := 3) sc_Lfirst_runs.nd rfl (Or.inl rfl) (pe_lst pa_nil))
    (pss_cons (ps_for PassesOwn.never rfl (pi_tup (pv 1)) (pg_tup (by rfl) (pgs_cons (pg_name (i := 4) sc_Lfirst_runs.nd rfl (Or.inl rfl)) (pgs_cons (pg_name (i := 5) sc_Lfirst_runs.nd rfl (Or.inl rfl)) (pgs_cons (pg_name (i := 6) sc_Lfirst_runs.nd rfl (Or.inl rfl)) pgs_nil))))
    (pss_cons (ps_set (i := 7) sc_Lfirst_runs.nd rfl (Or.inl rfl) (pe_ix ix_list (pe_lst (pa_cons pe_int (pa_cons pe_int (pa_cons pe_int (pa_cons pe_int (pa_cons pe_int (pa_cons pe_int pa_nil))))))) (pe_call G_Ldigit (hr.mono (by first | decide | omega)) (by rfl) T.m_Ldigit T.F_Ldigit.kp (b_Ldigit T) .nil pass0 (pa_cons (pv 2) (pa_cons pe_int pa_nil))) (fun _ _ => rfl)))
    (pss_one (ps_expr (pe_bm PySem.F.plainAttrs_list PySem.F.slot_list_append PySem.F.type_list_append mt_append (pv 3) (pa_cons (pe_tup (pa_cons (pv 4) (pa_cons (pe_call G_Lnumbers (hr.mono (by first | decide | omega)) (by rfl) T.m_Lnumbers T.F_Lnumbers.kp (b_Lnumbers T) .nil pass0 (pa_cons (pv 2) (pa_cons (pe_callB (id := "len") call_len_seq (by rfl) T.z_len (by decide +kernel) (pa_cons (pv 5) pa_nil)) pa_nil))) (pa_cons (pv 7) pa_nil)))) pa_nil))))))
    (pss_one (ps_ret (pv 3)))))), ?_⟩
  refine sq_setC (c_call (va_cons (val_var rfl) (va_cons val_c va_nil)) ⟨sa, ns, 7, rfl, hS, fun t zt ht => ?_⟩)
  have e1 := same_new (o := .lst [V.int zt]) ht
  have hT1 : TP (upd H t (.lst [V.int zt])) t := ⟨_, upd_same⟩
  generalize upd H t (.lst [V.int zt]) = H1 at *
  refine sq_setC (c_lstV va_nil (by simp) fun fl hfl => ?_)
  have e2 := same_new (o := .lst []) hfl
  have hflH : H fl = none := free_of (fun o ho => ⟨o, e1 _ _ ho⟩) hfl
  have hfl2 : upd H1 fl (.lst []) fl = some (.lst []) := upd_same
  have nft : fl ≠ t := fun z => by obtain ⟨y, hy⟩ := hT1; rw [← z, hfl] at hy; cases hy
  have hT2 := hT1.same e2
  have e12 := e1.trans e2
  generalize upd H1 fl (.lst []) = H2 at *
  refine st_seq ⟨_, rfl, a, rfl, ⟨xs, same_tup e12 hSx⟩, for_tup (xs := xs) (fun i σ H' => ∃ (a4 a5 a6 a7 : Option V) (acc : List V), σ = [some (.ref sa), some (.ref a), some (.ref t), some (.ref fl), a4, a5, a6, a7] ∧ Same H H' ∧ TP H' t ∧ H' fl = some (.lst acc) ∧ acc.length = i ∧ (∀ x ∈ acc, FRun K (msk (fun b => b = t ∨ b = fl) H') bk x)) ?_ ?_ ?_ ?_⟩
  · exact ⟨none, none, none, none, [], rfl, e12, hT2, hfl2, rfl, fun x h => by cases h⟩
  · rintro i σ H' _ ⟨_, _, _, _, _, _, e, _⟩
    exact same_tup e hSx
  · rintro i x σ H3 hxi ⟨a4, a5, a6, a7, acc, rfl, e3, hT3, hf3, hl3, hacc⟩
    have hi : i < bk.length := by
      rw [← lx]
      exact (List.getElem?_eq_some_iff.mp hxi).1
    obtain ⟨e, z1, z2⟩ := er_get hx hxi
    have hm := List.mem_of_getElem? z1
    obtain ⟨ae, te, ze, rfl, hE, hN, hB⟩ := pp_er z2
    refine ⟨ae, _, rfl, same_tup e3 hE, rfl, _, _, rfl, _, _, rfl, _, _, rfl, rfl, ?_⟩
    refine sq_setC (c_digit (ks := [40, 0, 1, 3, 12, 40]) (t := t) (va_cons val_c (va_cons val_c (va_cons val_c (va_cons val_c (va_cons val_c (va_cons val_c va_nil)))))) (fun p => va_cons (val_var rfl) (va_cons val_c va_nil)) (by simp) (by simp) hT3 fun k H4 hk f4 hT4 => ?_)
    obtain ⟨most, rfl, hmost⟩ : ∃ n : Nat, k = (n : Int) ∧ n ≤ 40 := ⟨k.toNat, by simp at hk; omega, by simp at hk; omega⟩
    have b4 : BT t H3 H4 := fun b o n hb => f4 o b hb n
    have e4 : Same H H4 := same_drop b4 (fun b hb => by rw [hb]; exact ht) e3
    have hf4 := f4 _ _ hf3 nft
    have lnm : (e.2.1.map V.str).length = e.2.1.length := List.length_map _
    refine c_drop (c_bm (val_var rfl) ⟨_, SqL.of hf4⟩ (c_cons (c_tup' (c_cons (c_val (val_var rfl) (c_cons ?_))))))
    refine c_call (vs := [.ref t, .int (e.2.1.length : Nat)]) (va_cons (val_var rfl) (va_cons (v_is (v_len (val_var rfl) (.inr (same_tup e4 hN))) (by rw [lnm])) va_nil)) ⟨t, e.2.1.length, rfl, hT4, by have := h4 e hm; omega, fun p H5 ms b5 hT5 hp hlm => ?_⟩
    refine c_cons (c_val (val_var rfl) (c_nil ⟨sz_of (by simp), fun pe hpe => c_nil ?_⟩))
    have e6 := same_new (o := .tup [.str e.1, .ref p, .int most]) hpe
    have b35 := b4.trans b5
    have hf5 := b5 _ _ nft hf4
    have e5 : Same H H5 := same_drop b5 (fun b hb => by rw [hb]; exact ht) e4
    refine ⟨fl, acc, _, rfl, rfl, e6 _ _ hf5, sz_lt (by omega), ?_⟩
    have bm : But (fun b => b = t ∨ b = fl) (upd H5 pe (.tup [.str e.1, .ref p, .int most])) (upd (upd H5 pe (.tup [.str e.1, .ref p, .int most])) fl (.lst (acc ++ [.ref pe]))) := But.mut (.inr rfl)
    have m5 : MutS (fun b => b = t ∨ b = fl) H5 := fun b hb => by
      rcases hb with hb | hb
      · rw [hb]; exact hT5.mut
      · rw [hb, hf5]; trivial
    have m6 := mutS_same m5 e6
    have g5 : Same (msk (fun b => b = t ∨ b = fl) H3) (msk (fun b => b = t ∨ b = fl) (upd (upd H5 pe (.tup [.str e.1, .ref p, .int most])) fl (.lst (acc ++ [.ref pe])))) := ((b35.sub fun b hb => .inl hb).trans ((But.of e6).trans bm)).msk
    refine ⟨_, _, _, _, acc ++ [.ref pe], rfl, same_drop bm (fun b hb => hb.elim (fun z => by rw [z]; exact ht) fun z => by rw [z]; exact hflH) (e5.trans e6), ?_, upd_same, by simp [hl3], ?_⟩
    · obtain ⟨z, hz⟩ := hT5
      exact ⟨z, by rw [upd_ne (Ne.symm nft)]; exact e6 _ _ hz⟩
    · intro y hy
      rcases List.mem_append.mp hy with hy | hy
      · obtain ⟨p', na', e', ns', most', q1, q2, q3, q4, q5, q6⟩ := hacc y hy
        exact ⟨p', na', e', ns', most', q1, same_tup g5 q2, same_tup g5 q3, q4, q5, q6⟩
      · rw [List.mem_singleton.mp hy]
        exact ⟨pe, p, e, ms, most, rfl, same_tup bm.msk (msk_new m5 hpe), same_tup bm.msk (same_tup (But.of e6).msk (msk_tup m5 hp)), hm, hlm, hmost⟩
  · rintro σ H3 ⟨a4, a5, a6, a7, acc, rfl, e3, hT3, hf3, hl3, hacc⟩
    refine st_ret (val_var rfl) (q fl H3 acc e3 hf3 fun x hx => ?_)
    obtain ⟨p', na', e', ns', most', q1, q2, q3, q4, q5, q6⟩ := hacc x hx
    exact ⟨p', na', e', ns', most', q1, same_tup msk_same q2, same_tup msk_same q3, q4, q5, q6⟩
end
end Wn
end
section
set_option Elab.async false
set_option linter.all false
set_option maxRecDepth 100000
set_option maxHeartbeats 4000000
namespace Wn
open PySem PySem.Spec PyProof.Rows L2
def spTold (K : PySem.W.Frag) : Sp := fun vs H Q _ => ∃ (v : V) (bk : List Er), vs = [v] ∧ Dp K H v (encBk bk) ∧ bk.length ≤ 10 ∧ (∀ e ∈ bk, e.2.1.length ≤ 4 ∧ LOK ("home" : Str) 2 62 e.2.2 e.2.1 []) ∧
  ((∀ e ∈ bk, sz 62 e.2.2 [] ≤ 200) → ∀ v' H' bk', Same H H' → LaidBk bk bk' → Dp K H' v' (encBk bk') → Q v' H') ∧ (∀ e ∈ bk, 200 < sz 62 e.2.2 [] → ∀ H', Q .non H')
section
variable {P : Program} {w : World} {K : PySem.W.Frag} {mg : Str → Option Value} {base : Heap} {ad : Nat → Addr} {fd : Nat → FuncData} {cL cT cN cB : Addr}
theorem ok_Ltold (T : Tx K mg ad fd cL cT cN cB) : FnOk P w K mg base CX0 198 (ad 53) (fd 53) ["some"] (spTold K) := by
  have G_laid : FnOk P w K mg base (L2.CX P w) 197 (ad 19) (fd 19) ["turned_book"] (spLaid K cL cT 62) := ok_laid T 62
  refine T.F_Ltold.ok sc_Ltold (fun vs H Q E h => ?_) (fun cdv A outer s H vs Q E hr h => ?_)
  · obtain ⟨v, bk, rfl, _⟩ := h
    rfl
  obtain ⟨v, bk, rfl, hv, hlen, hbk, q1, q2⟩ := h
  refine ⟨_, (pss_cons (ps_set (i := 1) sc_Ltold.nd rfl (Or.inl rfl) pe_non)
    (pss_cons (ps_try_only (tb := fun W => tAsg (tCallS (spLaid K cL cT 62) (WE W) (tCons (tVar 0) tNil)) (gName 1)) (ts := fun _ _ _ => tAsg (tC .non) (gName 1)) (Wout := fun _ _ _ _ => False) rfl rfl ⟨rfl, by decide, Or.inl T.m_TooGreat⟩ takes0 (fun W pn xe tk _ => (pss_one (ps_set (i := 1) sc_Ltold.nd rfl (Or.inl rfl) (by exact (pe_callS G_laid (hr.mono (by first | decide | omega)) (by rfl) T.m_laid T.F_laid.kp (b_laid T) (fun σ => passAt tk σ) (by exact (pa_cons (pv 0) pa_nil))))))) (fun a oe cls d pn hz hf => (pss_one (ps_set (i := 1) sc_Ltold.nd rfl (Or.inl rfl) pe_non))))
    (pss_one (ps_ret (pv 1))))), ?_⟩
  refine sq_set val_c ?_
  refine st_seq ?_
  refine c_asg ?_
  refine (val_var rfl : Val (tVar 0) _ H v) _ ⟨v, bk, rfl, hv, hlen, hbk, by decide, fun hs v' H' bk' e hl hd => ?_, fun e he hs dd H' => ?_⟩
  · exact st_ret (val_var rfl) (q1 hs v' H' bk' e hl hd)
  · refine ⟨true, T.eT, fun _ a ha => ?_, fun z => by cases z⟩
    exact st_set val_c (st_ret (val_var rfl) (q2 e he hs H'))
end
end Wn
end
section
set_option Elab.async false
set_option linter.all false
set_option maxRecDepth 100000
set_option maxHeartbeats 4000000
namespace Wn
open PySem PySem.Spec PyProof.Rows L2
theorem wdigs_ok (k : Nat) : ∀ c ∈ wdigs k, c < 1114112 := by
  induction k using Nat.strongRecOn with
  | _ k ih =>
    by_cases h : k < 26
    · rw [wdigs_lt h]
      intro c hc
      rw [List.mem_singleton.mp hc]; omega
    · rw [wdigs_ge h]
      intro c hc
      rcases List.mem_append.mp hc with hc | hc
      · exact ih (k / 26) (by omega) c hc
      · rw [List.mem_singleton.mp hc]; omega
theorem strk_word (k : Nat) : Strk (wordOf k) = true := by
  unfold Strk wordOf
  rw [Array.all_eq_true]
  intro i hi
  rw [decide_eq_true_iff]
  have hi' : i < (wdigs k ++ [113]).length := by simpa using hi
  have hm : (wdigs k ++ [113]).toArray[i] ∈ wdigs k ++ [113] := by
    rw [List.getElem_toArray]; exact List.getElem_mem hi'
  rcases List.mem_append.mp hm with h | h
  · exact wdigs_ok k _ h
  · rw [List.mem_singleton.mp h]; decide
/-- the words that are bound are right -/
def BN : Pts → Prop
  | .give _ _ => True
  | .ask _ _ _ => True
  | .st _ x _ T => Strk x = true ∧ BN T
  | .ite _ T U => BN T ∧ BN U
  | .post _ x T U => Strk x = true ∧ BN T ∧ BN U
theorem LayR.bn {used : List Str} {P L : Pts} {xs ws he k p k' p'} (h : LayR ("home" : Str) wordOf used P xs ws he k p L k' p') : BN L := by
  induction h with
  | give0 _ => trivial
  | give1 _ _ _ _ ih => exact ⟨strk_word _, ih⟩
  | ask0 _ => trivial
  | ask1 _ _ _ _ ih => exact ⟨strk_word _, ih, trivial⟩
  | st _ _ _ ih => exact ⟨strk_word _, ih⟩
  | ite _ _ i1 i2 => exact ⟨i1, i2⟩
  | post _ ih => exact ih
theorem can_kwO (l : Bool) : PyData.canLay0 (.str (kwO l)) = true := by cases l <;> decide +kernel
theorem can_kwS (l : Bool) : PyData.canLay0 (.str (kwS l)) = true := by cases l <;> decide +kernel
theorem can_T : ∀ {s : Tms} {xs : List Str}, WFt xs s → (∀ x ∈ xs, Strk x = true) → (encT s).canLay0 = true
  | .num n, _, _, _ => by
    show (PyData.canLay0 (.str "number") && (true && true)) = true
    decide +kernel
  | .nm x, xs, w, h => by
    show (PyData.canLay0 (.str "name") && (Strk x && true)) = true
    rw [h x w]; decide +kernel
  | .op l a b, xs, w, h => by
    show (PyData.canLay0 (.str (kwO l)) && ((encT a).canLay0 && ((encT b).canLay0 && true))) = true
    rw [can_T w.1 h, can_T w.2 h, can_kwO]; rfl
theorem can_Ts : ∀ {ss : List Tms} {xs : List Str}, (∀ s ∈ ss, WFt xs s) → (∀ x ∈ xs, Strk x = true) → PyData.canLayAll0 (ss.map encT) = true
  | [], _, _, _ => rfl
  | s :: r, xs, w, h => by
    show ((encT s).canLay0 && PyData.canLayAll0 (r.map encT)) = true
    rw [can_T (w s List.mem_cons_self) h, can_Ts (fun t ht => w t (List.mem_cons_of_mem _ ht)) h]; rfl
theorem can_back {hd : Str → Option Nat} (hf : ∀ f n, hd f = some n → Strk f = true) : ∀ {p : Pts} {xs js : List Str}, WFp ("home" : Str) hd 2 xs js p → BN p → (∀ x ∈ xs, Strk x = true) → (encB (back p)).canLay0 = true
  | .give j s, xs, js, w, _, h => by
    show (encB (emb s)).canLay0 = true
    rw [encB_emb]; exact can_T w.1 h
  | .ask f ss j, xs, js, w, _, h => by
    show (PyData.canLay0 (.str "ask") && (Strk f && (PyData.canLayAll0 (encBs (ss.map emb)) && true))) = true
    rw [encBs_emb, can_Ts (fun s hs => (w.1 s hs).1) h, hf f _ w.2.1]; decide +kernel
  | .st tl x s T, xs, js, w, b, h => by
    have ih := can_back hf w.2.2 b.2 (fun y hy => (List.mem_cons.mp hy).elim (fun e => by rw [e]; exact b.1) (h y))
    have hs := can_T w.1 h
    have hb := b.1
    cases tl with
    | true =>
      show (PyData.canLay0 (.str "let") && (Strk x && (((PyData.canLay0 (.str "tell") && ((encB (emb s)).canLay0 && true))) && ((encB (back T)).canLay0 && true)))) = true
      rw [encB_emb, hs, ih, hb]; decide +kernel
    | false =>
      show (PyData.canLay0 (.str "let") && (Strk x && ((encB (emb s)).canLay0 && ((encB (back T)).canLay0 && true)))) = true
      rw [encB_emb, hs, ih, hb]; decide +kernel
  | .ite s T U, xs, js, w, b, h => by
    show (PyData.canLay0 (.str "if") && ((encB (emb s)).canLay0 && ((encB (back T)).canLay0 && ((encB (back U)).canLay0 && true)))) = true
    rw [encB_emb, can_T w.1 h, can_back hf w.2.2.1 b.1 h, can_back hf w.2.2.2 b.2 h]; decide +kernel
  | .post j x T U, xs, js, w, b, h => by
    show (PyData.canLay0 (.str "let") && (Strk x && ((encB (back U)).canLay0 && ((encB (back T)).canLay0 && true)))) = true
    have hb := b.1
    rw [can_back hf w.2.2 b.2.2 h, can_back hf w.2.1 b.2.1 (fun y hy => (List.mem_cons.mp hy).elim (fun e => by rw [e]; exact b.1) (h y)), hb]; decide +kernel
theorem dep_T : ∀ s : Tms, (encT s).depth ≤ tdep s
  | .num _ => by show max 0 (max 0 0) + 1 ≤ 1; omega
  | .nm _ => by show max 0 (max 0 0) + 1 ≤ 1; omega
  | .op _ a b => by
    have h1 := dep_T a
    have h2 := dep_T b
    show max 0 (max (encT a).depth (max (encT b).depth 0)) + 1 ≤ 1 + max (tdep a) (tdep b)
    omega
theorem dep_Ts : ∀ {ss : List Tms} {d : Nat}, (∀ s ∈ ss, tdep s ≤ d) → PyData.depthAll (ss.map encT) ≤ d
  | [], _, _ => Nat.zero_le _
  | s :: r, d, h => by
    have h1 := dep_T s
    have h2 := h s List.mem_cons_self
    have h3 := dep_Ts (ss := r) (d := d) fun t ht => h t (List.mem_cons_of_mem _ ht)
    show max (encT s).depth (PyData.depthAll (r.map encT)) ≤ d
    omega
theorem dep_back : ∀ {p : Pts}, TD p → (encB (back p)).depth ≤ nst p + 4
  | .give _ s, h => by
    have h1 := dep_T s
    have h' : tdep s ≤ 2 := h
    show (encB (emb s)).depth ≤ 1 + 4
    rw [encB_emb]; omega
  | .ask f ss _, h => by
    have h1 := dep_Ts h.1
    show max 0 (max 0 (max (PyData.depthAll (encBs (ss.map emb)) + 1) 0)) + 1 ≤ 1 + 4
    rw [encBs_emb]; omega
  | .st tl _ s T, h => by
    have h1 := dep_T s
    have h2 := dep_back h.2
    have h3 := h.1
    cases tl with
    | true =>
      show max 0 (max 0 (max (max 0 (max (encB (emb s)).depth 0) + 1) (max (encB (back T)).depth 0))) + 1 ≤ 1 + nst T + 4
      rw [encB_emb]; omega
    | false =>
      show max 0 (max 0 (max (encB (emb s)).depth (max (encB (back T)).depth 0))) + 1 ≤ 1 + nst T + 4
      rw [encB_emb]; omega
  | .ite s T U, h => by
    have h1 := dep_T s
    have h2 := dep_back h.2.1
    have h3 := dep_back h.2.2
    have h4 := h.1
    show max 0 (max (encB (emb s)).depth (max (encB (back T)).depth (max (encB (back U)).depth 0))) + 1 ≤ 1 + max (nst T) (nst U) + 4
    rw [encB_emb]; omega
  | .post _ _ T U, h => by
    have h2 := dep_back h.1
    have h3 := dep_back h.2
    show max 0 (max 0 (max (encB (back U)).depth (max (encB (back T)).depth 0))) + 1 ≤ 1 + max (nst T) (nst U) + 4
    omega
theorem can_Tn : ∀ s : Tm Nat, (encTn s).canLay0 = true
  | .num n => by
    show (PyData.canLay0 (.str "number") && (true && true)) = true
    decide +kernel
  | .nm x => by
    show (PyData.canLay0 (.str "name") && (true && true)) = true
    decide +kernel
  | .op l a b => by
    show (PyData.canLay0 (.str (kwO l)) && ((encTn a).canLay0 && ((encTn b).canLay0 && true))) = true
    rw [can_Tn a, can_Tn b, can_kwO]; rfl
theorem can_Tns : ∀ ss : List (Tm Nat), PyData.canLayAll0 (ss.map encTn) = true
  | [] => rfl
  | s :: r => by
    show ((encTn s).canLay0 && PyData.canLayAll0 (r.map encTn)) = true
    rw [can_Tn s, can_Tns r]; rfl
theorem can_hv : ∀ j, (hvD j).canLay0 = true
  | none => by decide +kernel
  | some _ => rfl
theorem dep_hv : ∀ j, (hvD j).depth = 0
  | none => rfl
  | some _ => rfl
theorem can_Sh {hd : Str → Option Nat} (hf : ∀ f n, hd f = some n → Strk f = true) : ∀ {p : Pts} {xs js : List Str} {r h a b}, WFp ("home" : Str) hd 2 xs js p → (encSh (shp p r h a b).1).canLay0 = true
  | .give j s, xs, js, r, h, a, b, w => by
    show (PyData.canLay0 (.str "give") && ((hvD ((h j).getD none)).canLay0 && ((encTn (rnum r s)).canLay0 && true))) = true
    rw [can_hv, can_Tn]; decide +kernel
  | .ask f ss j, xs, js, r, h, a, b, w => by
    show (PyData.canLay0 (.str "ask") && (Strk f && (PyData.canLayAll0 ((ss.map (rnum r)).map encTn) && ((hvD ((h j).getD none)).canLay0 && true)))) = true
    rw [can_hv, can_Tns, hf f _ w.2.1]; decide +kernel
  | .st tl x s T, xs, js, r, h, a, b, w => by
    show (PyData.canLay0 (.str (kwS tl)) && (true && ((encTn (rnum r s)).canLay0 && ((encSh (shp T (fset r x a) h (a + 1) b).1).canLay0 && true)))) = true
    rw [can_kwS, can_Tn, can_Sh hf w.2.2]; rfl
  | .ite s T U, xs, js, r, h, a, b, w => by
    show (PyData.canLay0 (.str "if") && ((encTn (rnum r s)).canLay0 && ((encSh (shp T r h a b).1).canLay0 && ((encSh (shp U r h (shp T r h a b).2.1 (shp T r h a b).2.2).1).canLay0 && true)))) = true
    rw [can_Tn, can_Sh hf w.2.2.1, can_Sh hf w.2.2.2]; decide +kernel
  | .post j x T U, xs, js, r, h, a, b, w => by
    show (PyData.canLay0 (.str "post") && (true && (true && ((encSh (shp T (fset r x a) h (a + 1) (b + 1)).1).canLay0 && ((encSh (shp U r (fset h j (some b)) (shp T (fset r x a) h (a + 1) (b + 1)).2.1 (shp T (fset r x a) h (a + 1) (b + 1)).2.2).1).canLay0 && true))))) = true
    rw [can_Sh hf w.2.1, can_Sh hf w.2.2]; decide +kernel
theorem dep_Tn (r : Str → Option Nat) : ∀ s : Tms, (encTn (rnum r s)).depth ≤ tdep s
  | .num _ => by show max 0 (max 0 0) + 1 ≤ 1; omega
  | .nm _ => by show max 0 (max 0 0) + 1 ≤ 1; omega
  | .op _ a b => by
    have h1 := dep_Tn r a
    have h2 := dep_Tn r b
    show max 0 (max (encTn (rnum r a)).depth (max (encTn (rnum r b)).depth 0)) + 1 ≤ 1 + max (tdep a) (tdep b)
    omega
theorem dep_Tns (r : Str → Option Nat) : ∀ {ss : List Tms} {d : Nat}, (∀ s ∈ ss, tdep s ≤ d) → PyData.depthAll ((ss.map (rnum r)).map encTn) ≤ d
  | [], _, _ => Nat.zero_le _
  | s :: l, d, h => by
    have h1 := dep_Tn r s
    have h2 := h s List.mem_cons_self
    have h3 := dep_Tns r (ss := l) (d := d) fun t ht => h t (List.mem_cons_of_mem _ ht)
    show max (encTn (rnum r s)).depth (PyData.depthAll ((l.map (rnum r)).map encTn)) ≤ d
    omega
theorem dep_Sh : ∀ {p : Pts} {r h a b}, TD p → (encSh (shp p r h a b).1).depth ≤ nst p + 4
  | .give j s, r, h, a, b, w => by
    have h1 := dep_Tn r s
    have h' : tdep s ≤ 2 := w
    show max 0 (max (hvD ((h j).getD none)).depth (max (encTn (rnum r s)).depth 0)) + 1 ≤ 1 + 4
    rw [dep_hv]; omega
  | .ask f ss j, r, h, a, b, w => by
    have h1 := dep_Tns r w.1
    show max 0 (max 0 (max (PyData.depthAll ((ss.map (rnum r)).map encTn) + 1) (max (hvD ((h j).getD none)).depth 0))) + 1 ≤ 1 + 4
    rw [dep_hv]; omega
  | .st tl x s T, r, h, a, b, w => by
    have h1 := dep_Tn r s
    have h2 := dep_Sh (r := fset r x a) (h := h) (a := a + 1) (b := b) w.2
    have h3 := w.1
    show max 0 (max 0 (max (encTn (rnum r s)).depth (max (encSh (shp T (fset r x a) h (a + 1) b).1).depth 0))) + 1 ≤ 1 + nst T + 4
    omega
  | .ite s T U, r, h, a, b, w => by
    have h1 := dep_Tn r s
    have h2 := dep_Sh (r := r) (h := h) (a := a) (b := b) w.2.1
    have h3 := dep_Sh (r := r) (h := h) (a := (shp T r h a b).2.1) (b := (shp T r h a b).2.2) w.2.2
    have h4 := w.1
    show max 0 (max (encTn (rnum r s)).depth (max (encSh (shp T r h a b).1).depth (max (encSh (shp U r h (shp T r h a b).2.1 (shp T r h a b).2.2).1).depth 0))) + 1 ≤ 1 + max (nst T) (nst U) + 4
    omega
  | .post j x T U, r, h, a, b, w => by
    have h2 := dep_Sh (r := fset r x a) (h := h) (a := a + 1) (b := b + 1) w.1
    have h3 := dep_Sh (r := r) (h := fset h j (some b)) (a := (shp T (fset r x a) h (a + 1) (b + 1)).2.1) (b := (shp T (fset r x a) h (a + 1) (b + 1)).2.2) w.2
    show max 0 (max 0 (max 0 (max (encSh (shp T (fset r x a) h (a + 1) (b + 1)).1).depth (max (encSh (shp U r (fset h j (some b)) (shp T (fset r x a) h (a + 1) (b + 1)).2.1 (shp T (fset r x a) h (a + 1) (b + 1)).2.2).1).depth 0)))) + 1 ≤ 1 + max (nst T) (nst U) + 4
    omega
/-! a run's data -/
theorem can_V : ∀ {l : List (Ev Str)}, AskIn (fun f => Strk f = true) l → PyData.canLayAll0 (l.map encV) = true
  | [], _ => rfl
  | .tell n :: r, h => by
    show ((PyData.canLay0 (.str "tell") && (true && true)) && PyData.canLayAll0 (r.map encV)) = true
    rw [can_V (l := r) h]; decide +kernel
  | .ask f ns :: r, h => by
    have key : ∀ l : List Int, PyData.canLayAll0 (l.map .int) = true := by
      intro l
      induction l with
      | nil => rfl
      | cons a l ih =>
        show (true && PyData.canLayAll0 (l.map .int)) = true
        rw [ih]; rfl
    show ((PyData.canLay0 (.str "ask") && (Strk f && (PyData.canLayAll0 (ns.map .int) && true))) && PyData.canLayAll0 (r.map encV)) = true
    rw [can_V (l := r) h.2, h.1, key]; decide +kernel
theorem dep_V : ∀ l : List (Ev Str), PyData.depthAll (l.map encV) ≤ 2
  | [] => Nat.zero_le _
  | .tell n :: r => by
    have := dep_V r
    show max (max 0 (max 0 0) + 1) (PyData.depthAll (r.map encV)) ≤ 2
    omega
  | .ask f ns :: r => by
    have := dep_V r
    have key : ∀ l : List Int, PyData.depthAll (l.map .int) = 0 := by
      intro l
      induction l with
      | nil => rfl
      | cons a l ih =>
        show max 0 (PyData.depthAll (l.map .int)) = 0
        rw [ih]; rfl
    show max (max 0 (max 0 (max (PyData.depthAll (ns.map .int) + 1) 0)) + 1) (PyData.depthAll (r.map encV)) ≤ 2
    rw [key]; omega
def encRes (r : Res Str) : PyData := .tuple [.list (r.tr.map encV), encN r.en, .int (r.dp : Nat)]
theorem shaped_res {r : Res Str} (h : AskIn (fun f => Strk f = true) r.tr) : SeqAt.shaped (encRes r) = true := by
  unfold SeqAt.shaped
  rw [Bool.and_eq_true]
  have hn : (encN r.en).canLay0 = true ∧ (encN r.en).depth ≤ 1 := by
    cases r.en with
    | done n => exact ⟨by show (PyData.canLay0 (.str "done") && (true && true)) = true; decide +kernel, by show max 0 (max 0 0) + 1 ≤ 1; omega⟩
    | long => exact ⟨by decide +kernel, by show max 0 0 + 1 ≤ 1; omega⟩
  refine ⟨?_, decide_eq_true ?_⟩
  · show (PyData.canLayAll0 (r.tr.map encV) && ((encN r.en).canLay0 && (true && true))) = true
    rw [can_V h, hn.1]; rfl
  · have := dep_V r.tr
    show max (PyData.depthAll (r.tr.map encV) + 1) (max (encN r.en).depth (max 0 0)) + 1 ≤ 64
    omega
end Wn
end
section
set_option Elab.async false
set_option linter.all false
set_option maxRecDepth 100000
set_option maxHeartbeats 4000000
namespace Wn
open PySem PySem.Spec PyProof.Rows L2
theorem bkF_gen {A : Type} : ∀ (l : List (Str × List Str × A)) (F : Str → Option (List Str × A)) (f : Str), ((∃ e ∈ l, e.1 = f) ∨ F f ≠ none) → l.foldl (fun f e => fset f e.1 e.2) F f ≠ none
  | [], F, f, h => h.elim (fun ⟨e, he, _⟩ => by cases he) fun z => z
  | e :: l, F, f, h => by
    refine bkF_gen l (fset F e.1 e.2) f ?_
    by_cases ef : f = e.1
    · right; rw [ef, fset_same]; simp
    · rcases h with ⟨e', he', q⟩ | h
      · rcases List.mem_cons.mp he' with z | z
        · exact absurd (by rw [← q, z]) ef
        · exact .inl ⟨e', z, q⟩
      · right; rw [fset_ne ef]; exact h
/-- the book and the one laid and turned back, by names -/
theorem bk_rel {bk bk' : List Er} (h : LaidBk bk bk') : ∀ (F : Str → Option (List Str × Pts)) (G : Str → Option (List Str × Bs)) (S : Er → Er → Prop),
    (∀ e e', LaidE e e' → e ∈ bk → e' ∈ bk' → S e e') → (∀ f, (F f = none ∧ G f = none) ∨ ∃ e e', S e e' ∧ e.1 = f ∧ F f = some e.2 ∧ G f = some (e'.2.1, back e'.2.2)) →
    ∀ f, (bk.foldl (fun f e => fset f e.1 e.2) F f = none ∧ (backBk bk').foldl (fun f e => fset f e.1 e.2) G f = none) ∨ ∃ e e', S e e' ∧ e.1 = f ∧ bk.foldl (fun f e => fset f e.1 e.2) F f = some e.2 ∧ (backBk bk').foldl (fun f e => fset f e.1 e.2) G f = some (e'.2.1, back e'.2.2) := by
  induction h with
  | nil => intro F G S _ h f; exact h f
  | @cons e e' l l' hE _ ih =>
    intro F G S hS h f
    refine ih (fset F e.1 e.2) (fset G e'.1 (e'.2.1, back e'.2.2)) S (fun a b q h1 h2 => hS a b q (List.mem_cons_of_mem _ h1) (List.mem_cons_of_mem _ h2)) (fun g => ?_) f
    have s := hS e e' hE List.mem_cons_self List.mem_cons_self
    by_cases eg : g = e.1
    · refine .inr ⟨e, e', s, eg.symm, by rw [eg]; exact fset_same, ?_⟩
      rw [eg, ← hE.1]; exact fset_same
    · rcases h g with ⟨h1, h2⟩ | ⟨a, b, h1, h2, h3, h4⟩
      · exact .inl ⟨by rw [fset_ne eg]; exact h1, by rw [fset_ne (by rw [hE.1]; exact eg)]; exact h2⟩
      · exact .inr ⟨a, b, h1, h2, by rw [fset_ne eg]; exact h3, by rw [fset_ne (by rw [hE.1]; exact eg)]; exact h4⟩
/-- all that is known of a laid errand -/
structure LK (hd : Str → Option Nat) (e e' : Er) : Prop where
  le : LaidE e e'
  laid : Laid ("home" : Str) e'.2.2
  ns : nst e'.2.2 ≤ 31
  wf : WFp ("home" : Str) hd 2 e'.2.1 ["home"] e'.2.2
  bn : BN e'.2.2
  csz : csz e'.2.2 = sz 62 e.2.2 []
theorem idw_cov (xs : List Str) : Cov xs (idw xs) xs := fun x hx => ⟨x, if_pos hx, hx⟩
theorem lk_of {hd : Str → Option Nat} (ar : ∀ f n, hd f = some n → n ≤ 10) {e e' : Er} (h : EOk hd e) (l : LaidE e e') : LK hd e e' := by
  obtain ⟨h1, h2, k, p, hl⟩ := id l
  have hw0 : HWF ("home" : Str) hd 2 ["home"] [] := fun j hj => List.mem_singleton.mp hj
  have lok : ∀ n, 31 ≤ n → LOK ("home" : Str) 2 n e.2.2 e.2.1 [] := fun n hn => lok_of ar n h.wf hw0 (by have := h.cn; simp only [pot]; omega)
  refine ⟨l, hl.laid, hl.nest 31 (lok 31 (Nat.le_refl _)), ?_, hl.bn, hl.count 62 (lok 62 (by decide))⟩
  rw [h2]
  exact hl.wf (fun i => wordOf_home i) ["home"] e.2.1 h.wf hw0 (idw_cov _) trivial
theorem lok_book {hd : Str → Option Nat} (ar : ∀ f n, hd f = some n → n ≤ 10) {e : Er} (h : EOk hd e) : LOK ("home" : Str) 2 62 e.2.2 e.2.1 [] :=
  lok_of ar 62 h.wf (fun j hj => List.mem_singleton.mp hj) (by have := h.cn; simp only [pot]; omega)
theorem lok_again {hd : Str → Option Nat} (ar : ∀ f n, hd f = some n → n ≤ 10) {e e' : Er} (h : LK hd e e') : LOK ("home" : Str) 2 62 e'.2.2 e'.2.1 [] :=
  lok_laid ar h.laid 62 e'.2.1 h.wf (by have := h.ns; omega)
theorem sh_same {hd : Str → Option Nat} {e e' e'' : Er} (h : LK hd e e') (l : LaidE e' e'') : shE e'' = shE e' := by
  obtain ⟨h1, h2, k, p, hl⟩ := l
  unfold shE
  rw [h1, h2]
  have key := shape_eq (d := 2) (hd := hd) wordOf_inj h.laid e'.2.1 ["home"] (idw e'.2.1) 0 0 e''.2.2 k p (rc e'.2.1).1 (rc e'.2.1).1 h0 h0 (rc e'.2.1).2 0 hl h.wf (fun x hx => ⟨x, if_pos hx, .inl hx, rfl⟩) rfl
  rw [key]
theorem laidBk_all {S : Er → Er → Prop} {bk bk' : List Er} (h : LaidBk bk bk') : (∀ e e', e ∈ bk → LaidE e e' → S e e') → ∀ e' ∈ bk', ∃ e ∈ bk, S e e' := by
  induction h with
  | nil => intro _ e' he; cases he
  | @cons a a' l l' hE _ ih =>
    intro hS e' he
    rcases List.mem_cons.mp he with q | q
    · exact ⟨a, List.mem_cons_self, by rw [q]; exact hS a a' List.mem_cons_self hE⟩
    · obtain ⟨e, h1, h2⟩ := ih (fun x y hx hl => hS x y (List.mem_cons_of_mem _ hx) hl) e' q
      exact ⟨e, List.mem_cons_of_mem _ h1, h2⟩
theorem shapes_same {hd : Str → Option Nat} {l l2 : List Er} (h : LaidBk l l2) : (∀ e' ∈ l, ∃ e, LK hd e e') → l2.map shE = l.map shE := by
  induction h with
  | nil => intro _; rfl
  | @cons a a' l l' hE _ ih =>
    intro q
    obtain ⟨e, he⟩ := q a List.mem_cons_self
    rw [List.map_cons, List.map_cons, sh_same he hE, ih fun x hx => q x (List.mem_cons_of_mem _ hx)]
theorem canAll_of : ∀ {l : List Er}, (∀ e ∈ l, (shE e).canLay0 = true) → PyData.canLayAll0 (l.map shE) = true
  | [], _ => rfl
  | e :: r, h => by
    show ((shE e).canLay0 && PyData.canLayAll0 (r.map shE)) = true
    rw [h e List.mem_cons_self, canAll_of fun x hx => h x (List.mem_cons_of_mem _ hx)]; rfl
theorem depAll_of : ∀ {l : List Er} {d : Nat}, (∀ e ∈ l, (shE e).depth ≤ d) → PyData.depthAll (l.map shE) ≤ d
  | [], _, _ => Nat.zero_le _
  | e :: r, d, h => by
    have h1 := h e List.mem_cons_self
    have h2 := depAll_of (l := r) fun x hx => h x (List.mem_cons_of_mem _ hx)
    show max (shE e).depth (PyData.depthAll (r.map shE)) ≤ d
    omega
theorem shaped_shp {hd : Str → Option Nat} (ar : ∀ f n, hd f = some n → n ≤ 10) (hf : ∀ f n, hd f = some n → Strk f = true) {l : List Er} (h : ∀ e' ∈ l, Strk e'.1 = true ∧ ∃ e, LK hd e e') : SeqAt.shaped (encShp l) = true := by
  unfold SeqAt.shaped
  rw [Bool.and_eq_true]
  refine ⟨canAll_of fun e' he => ?_, decide_eq_true ?_⟩
  · obtain ⟨h1, e, h2⟩ := h e' he
    show (Strk e'.1 && (true && ((encSh (shp e'.2.2 (rc e'.2.1).1 h0 (rc e'.2.1).2 0).1).canLay0 && true))) = true
    rw [h1, can_Sh hf h2.wf]; rfl
  · have : PyData.depthAll (l.map shE) ≤ 40 := depAll_of fun e' he => by
      obtain ⟨h1, e, h2⟩ := h e' he
      have z := dep_Sh (p := e'.2.2) (r := (rc e'.2.1).1) (h := h0) (a := (rc e'.2.1).2) (b := 0) (td_of ar h2.wf)
      have := h2.ns
      show max 0 (max 0 (max (encSh (shp e'.2.2 (rc e'.2.1).1 h0 (rc e'.2.1).2 0).1).depth 0)) + 1 ≤ 40
      omega
    show PyData.depthAll (l.map shE) + 1 ≤ 64
    omega
end Wn
end
section
set_option Elab.async false
set_option linter.all false
set_option maxRecDepth 100000
set_option maxHeartbeats 4000000
namespace Wn
open PySem PySem.Spec PyProof.Rows L2
def spLaw (K : PySem.W.Frag) : Sp := fun vs H Q _ => ∃ (sa : Addr) (ns : List Int), vs = [.ref sa] ∧ SqL K H sa (ns.map .int) ∧ ∀ H', Q (.bl true) H'
theorem c_slX {r : V → Option Int → Option Int → Hp → VK → Prop} {σ : L2.St} {H : Hp} {te : TE} {lo hi : TO} {Q : VK} (h : te σ H fun x H1 => lo σ H1 fun l H2 => hi σ H2 fun h H3 => r x l h H3 Q) : tSl r te lo hi σ H Q := h
theorem rv_cut {K : PySem.W.Frag} {H : Hp} {r : Res Str} {v : V} {Q : VK} (h : RV K H r v) (q : ∀ p H', Same H H' → Dp K H' (.ref p) (encRes r) → Q (.ref p) H') : rSlA K v none (some 3) H Q := by
  obtain ⟨a, tl, x, y, acc, rfl, h1, h2, h3, h4⟩ := h
  refine r_slA h1 (ys := [.ref tl, x, .int (r.dp : Nat)]) rfl fun p H' e hp => q p H' e ?_
  exact .tup hp (.cons (.lst (SqL.of (e _ _ h2)) (dpa_mono e h3)) (.cons (dp_mono e h4) (.cons (.int _) .nil)))
section
variable {P : Program} {w : World} {K : PySem.W.Frag} {mg : Str → Option Value} {base : Heap} {ad : Nat → Addr} {fd : Nat → FuncData} {cL cT cN cB : Addr}
theorem ok_law (T : Tx K mg ad fd cL cT cN cB) : FnOk P w K mg base CX0 199 (ad 54) (fd 54) ["script"] (spLaw K) := by
  have G_Ldigit := ok_Ldigit (P := P) (w := w) (base := base) T
  have G_Ltape := ok_Ltape (P := P) (w := w) (base := base) T
  have G_Lturned_book := ok_Lturned_book (P := P) (w := w) (base := base) T
  have G_Ltold := ok_Ltold (P := P) (w := w) (base := base) T
  have G_is_laid := ok_is_laid (P := P) (w := w) (base := base) T 31
  have G_bent_at := ok_bent_at (P := P) (w := w) (base := base) T 31
  have G_Lshape := ok_Lshape (P := P) (w := w) (base := base) T 62
  have G_back := ok_back (P := P) (w := w) (base := base) T 31
  have G_Lfirst_runs := ok_Lfirst_runs (P := P) (w := w) (base := base) T
  have G_Lturned_run := ok_Lturned_run (P := P) (w := w) (base := base) T
  have G_Lrun := ok_Lrun (P := P) (w := w) (base := base) T
  refine T.F_law.ok sc_law (fun vs H Q E h => ?_) (fun cdv A outer s H vs Q E hr h => ?_)
  · obtain ⟨sa, ns, rfl, _⟩ := h
    rfl
  obtain ⟨sa, ns, rfl, hS, q⟩ := h
  refine ⟨_, (pss_cons (ps_set (i := 1) sc_law.nd rfl (Or.inl rfl) (pe_call G_Lturned_book (hr.mono (by first | decide | omega)) (by rfl) T.m_Lturned_book T.F_Lturned_book.kp (b_Lturned_book T) .nil pass0 (pa_cons (pv 0) (pa_cons pe_int (pa_cons (pe_cmpR op_eq (pe_call G_Ldigit (hr.mono (by first | decide | omega)) (by rfl) T.m_Ldigit T.F_Ldigit.kp (b_Ldigit T) .nil pass0 (pa_cons (pe_call G_Ltape (hr.mono (by first | decide | omega)) (by rfl) T.m_Ltape T.F_Ltape.kp (b_Ltape T) .nil pass0 (pa_cons (pv 0) (pa_cons pe_int pa_nil))) (pa_cons pe_int pa_nil))) pe_int (nomark _)) pa_nil)))))
    (pss_cons (ps_set (i := 2) sc_law.nd rfl (Or.inl rfl) (pe_call G_Ltold (hr.mono (by first | decide | omega)) (by rfl) T.m_Ltold T.F_Ltold.kp (b_Ltold T) .nil pass0 (pa_cons (pv 1) pa_nil)))
    (pss_cons (ps_if (pt_cmpR op_isN (pv 2) pe_non (nomark _)) (pss_one (ps_ret pe_bl)) pss_nil)
    (pss_cons (ps_if (PW.pt (pw_or (pt_cmpR op_notBl (pe_call G_is_laid (hr.mono (by first | decide | omega)) (by rfl) T.m_is_laid T.F_is_laid.kp (b_is_laid T) .nil pass0 (pa_cons (pv 2) pa_nil)) pe_bl (nomark _)) (pw_or1 (pt_cmpR op_notN (pe_call G_bent_at (hr.mono (by first | decide | omega)) (by rfl) T.m_bent_at T.F_bent_at.kp (b_bent_at T) .nil pass0 (pa_cons (pv 2) pa_nil)) pe_non (nomark _))))) (pss_one (ps_ret pe_bl)) pss_nil)
    (pss_cons (ps_set (i := 3) sc_law.nd rfl (Or.inl rfl) (pe_call G_Ltold (hr.mono (by first | decide | omega)) (by rfl) T.m_Ltold T.F_Ltold.kp (b_Ltold T) .nil pass0 (pa_cons (pv 2) pa_nil)))
    (pss_cons (ps_if (PW.pt (pw_or (pt_cmpR op_isN (pv 3) pe_non (nomark _)) (pw_or1 (pt_cmpR (op_neD hr.units) (pe_call G_Lshape (hr.mono (by first | decide | omega)) (by rfl) T.m_Lshape T.F_Lshape.kp (b_Lshape T) .nil pass0 (pa_cons (pv 3) pa_nil)) (pe_call G_Lshape (hr.mono (by first | decide | omega)) (by rfl) T.m_Lshape T.F_Lshape.kp (b_Lshape T) .nil pass0 (pa_cons (pv 2) pa_nil)) (nomark _))))) (pss_one (ps_ret pe_bl)) pss_nil)
    (pss_cons (ps_set (i := 4) sc_law.nd rfl (Or.inl rfl) (pe_call G_back (hr.mono (by first | decide | omega)) (by rfl) T.m_back T.F_back.kp (b_back T) .nil pass0 (pa_cons (pv 2) pa_nil)))
    (pss_cons (ps_for PassesOwn.never rfl (pi_list (pe_call G_Lfirst_runs (hr.mono (by first | decide | omega)) (by rfl) T.m_Lfirst_runs T.F_Lfirst_runs.kp (b_Lfirst_runs T) .nil pass0 (pa_cons (pv 0) (pa_cons (pv 1) pa_nil)))) (pg_tup (by rfl) (pgs_cons (pg_name (i := 5) sc_law.nd rfl (Or.inl rfl)) (pgs_cons (pg_name (i := 6) sc_law.nd rfl (Or.inl rfl)) (pgs_cons (pg_name (i := 7) sc_law.nd rfl (Or.inl rfl)) pgs_nil))))
    (pss_cons (ps_set (i := 8) sc_law.nd rfl (Or.inl rfl) (pe_call G_Lturned_run (hr.mono (by first | decide | omega)) (by rfl) T.m_Lturned_run T.F_Lturned_run.kp (b_Lturned_run T) .nil pass0 (pa_cons (pv 1) (pa_cons (pv 5) (pa_cons (pv 6) (pa_cons (pv 7) pa_nil))))))
    (pss_one (ps_if (pt_cmpR (op_neD hr.units) (pe_slice sl_tupA (pe_call G_Lrun (hr.mono (by first | decide | omega)) (by rfl) T.m_Lrun T.F_Lrun.kp (b_Lrun T) .nil pass0 (pa_cons (pv 4) (pa_cons (pv 5) (pa_cons (pv 6) (pa_cons (pv 7) pa_nil))))) po_none (po_some pe_int)) (pe_slice sl_tupA (pv 8) po_none (po_some pe_int)) (nomark _)) (pss_one (ps_ret pe_bl)) pss_nil))))
    (pss_one (ps_ret pe_bl)))))))))), ?_⟩
  refine sq_setC (c_callL (c_cons (c_val (val_var rfl) (c_cons (c_val val_c (c_cons ?_))))))
  refine c_opL (c_callL (c_cons (c_call (va_cons (val_var rfl) (va_cons val_c va_nil)) ⟨sa, ns, 0, rfl, hS, fun t zt ht => c_cons (c_val val_c (c_nil ⟨t, 4, rfl, ⟨zt, upd_same⟩, by decide, by decide, fun rr H2 hrr b2 hT2 => c_val val_c ⟨rfl, c_nil ?_⟩⟩))⟩)))
  have e2 : Same H H2 := same_drop b2 (fun b hb => by rw [hb]; exact ht) (same_new ht)
  refine ⟨sa, ns, 1, _, rfl, e2.seq hS, by decide, fun v H3 bk hd e3 hv hB => ?_⟩
  have har : ∀ f n, hd f = some n → n ≤ 10 := fun f n h => by have := (hB.dom f n h).1; omega
  have hfs : ∀ f n, hd f = some n → Strk f = true := fun f n h => by
    obtain ⟨_, e, he, rfl⟩ := hB.dom f n h
    exact (hB.all e he).ok
  have hb6 := hB.len
  have hn4 : ∀ e ∈ bk, e.2.1.length ≤ 4 := fun e he => (hB.dom _ _ (hB.all e he).ar).1
  have e03 := e2.trans e3
  clear e2 b2 hT2
  refine sq_setC (c_call (va_cons (val_var rfl) va_nil) ⟨v, bk, rfl, hv, by omega, fun e he => ⟨hn4 e he, lok_book har (hB.all e he)⟩, fun hs v4 H4 bk4 e4 hl4 hd4 => ?_, fun e he hs H4 => ?_⟩)
  · have hLK : ∀ e' ∈ bk4, ∃ e ∈ bk, LK hd e e' := laidBk_all hl4 fun e e' he hl => lk_of har (hB.all e he) hl
    have hl4l := hl4.length
    have ne4 : v4 ≠ .non := fun z => by
      obtain ⟨a, xs, z2, _⟩ := dp_tup hd4
      rw [z2] at z; cases z
    refine sq_no (a_isN (val_var rfl) (decide_eq_false ne4)) ?_
    refine sq_ifC ?_
    refine c_test (c_opL (c_call (va_cons (val_var rfl) va_nil) ⟨v4, bk4, rfl, hd4, by omega, fun e' he' => ?_, fun H5 e5 => ?_⟩))
    · obtain ⟨e, _, h⟩ := hLK e' he'
      exact ⟨h.laid, h.ns⟩
    have hd5 := dp_mono e5 hd4
    refine c_val val_c ⟨true, true, rfl, rfl, false, rfl, iteF ?_⟩
    refine c_test (c_opL (c_call (va_cons (val_var rfl) va_nil) ⟨v4, bk4, rfl, hd5, by omega, by decide, fun e' he' => ?_, fun H6 e6 => ?_⟩))
    · obtain ⟨e, _, h⟩ := hLK e' he'
      exact ⟨h.laid.strt, h.ns⟩
    refine c_val val_c ⟨rfl, false, rfl, iteF ?_⟩
    have hd6 := dp_mono e6 hd5
    have e46 := e5.trans e6
    -- laid again
    refine sq_setC (c_call (va_cons (val_var rfl) va_nil) ⟨v4, bk4, rfl, hd6, by omega, fun e' he' => ?_, fun _ v7 H7 bk7 e7 hl7 hd7 => ?_, fun e' he' hbig => ?_⟩)
    · obtain ⟨e, he, h⟩ := hLK e' he'
      refine ⟨?_, lok_again har h⟩
      rw [h.le.2.1]; exact hn4 e he
    · have ne7 : v7 ≠ .non := fun z => by
        obtain ⟨a, xs, z2, _⟩ := dp_tup hd7
        rw [z2] at z; cases z
      have hl7l := hl7.length
      have hd47 := dp_mono e7 hd6
      have hsame : encShp bk7 = encShp bk4 := by
        unfold encShp
        rw [shapes_same hl7 fun e' he' => let ⟨e, _, h⟩ := hLK e' he'; ⟨e, h⟩]
      have hshd : SeqAt.shaped (encShp bk4) = true := shaped_shp har hfs fun e' he' => by
        obtain ⟨e, he, h⟩ := hLK e' he'
        exact ⟨by rw [h.le.1]; exact (hB.all e he).ok, e, h⟩
      refine sq_ifC (c_orF (a_isN (val_var rfl) (decide_eq_false ne7)) ?_)
      refine c_test (c_opL (c_call (va_cons (val_var rfl) va_nil) ⟨v7, bk7, hd, rfl, hd7, by omega, fun e'' he'' => ?_, har, by decide, fun s7 H8 e8 hsh7 => ?_⟩))
      · obtain ⟨e', he', hle⟩ := laidBk_all (S := fun a b => LaidE a b) hl7 (fun _ _ _ h => h) e'' he''
        obtain ⟨e, he, h⟩ := hLK e' he'
        obtain ⟨g1, g2, k, p, hlr⟩ := hle
        have lok := lok_again har h
        refine ⟨by rw [g2, h.le.2.1]; exact hn4 e he, ?_, ?_⟩
        · rw [g2]
          exact hlr.wf (fun i => wordOf_home i) ["home"] e'.2.1 h.wf (fun j hj => List.mem_singleton.mp hj) (idw_cov _) trivial
        · exact hlr.nest 62 lok
      refine c_call (va_cons (val_var rfl) va_nil) ⟨v4, bk4, hd, rfl, dp_mono e8 hd47, by omega, fun e' he' => ?_, har, by decide, fun s4 H9 e9 hsh4 => ?_⟩
      · obtain ⟨e, he, h⟩ := hLK e' he'
        exact ⟨by rw [h.le.2.1]; exact hn4 e he, h.wf, Nat.le_trans h.ns (by decide)⟩
      refine ⟨encShp bk4, encShp bk4, by rw [← hsame]; exact dp_mono e9 hsh7, hsh4, hshd, hshd, false, ?_, iteF ?_⟩
      · rw [SeqAt.eqv_refl _ (SeqAt.canLay_of_shaped hshd)]; rfl
      have e49 := e46.trans (e7.trans (e8.trans e9))
      have hd9 := dp_mono (e8.trans e9) hd47
      have hv9 := dp_mono (e4.trans e49) hv
      have e09 := e03.trans (e4.trans e49)
      have hBok : Bok ("home" : Str) wordOf hd 2 (bkF bk) (bkF (backBk bk4)) := fun f n hf => by
        obtain ⟨_, e0, he0, hfe⟩ := hB.dom f n hf
        have hne := bkF_gen bk (fun _ => none) f (.inl ⟨e0, he0, hfe⟩)
        rcases bk_rel hl4 (fun _ => none) (fun _ => none) (fun e e' => LK hd e e' ∧ e ∈ bk) (fun e e' hl he _ => ⟨lk_of har (hB.all e he) hl, he⟩) (fun f => .inl ⟨rfl, rfl⟩) f with ⟨h1, _⟩ | ⟨e, e', ⟨hk, hm⟩, hf', h1, h2⟩
        · exact absurd h1 hne
        · obtain ⟨g1, g2, k, p, hlr⟩ := hk.le
          have hEk := hB.all e hm
          have hn : n = e.2.1.length := by
            have z := hEk.ar
            rw [hf', hf] at z
            exact Option.some.inj z
          exact ⟨e.2.1, e.2.2, idw e.2.1, e'.2.2, k, p, h1, by rw [← g2]; exact h2, hn.symm, hEk.wf, fun x hx => if_pos hx, hlr⟩
      have hbb : ∀ g xs b, bkF (backBk bk4) g = some (xs, b) → xs.length ≤ 4 ∧ BOk 4 b := fun g xs b h => by
        have hm := bkF_mem _ _ rfl h
        obtain ⟨e', he', heq⟩ := List.mem_map.mp hm
        cases heq
        obtain ⟨e, he, hk⟩ := hLK e' he'
        have htd := td_of har hk.wf
        have z1 := bd_back htd
        have z2 := dep_back htd
        have z3 := hk.ns
        exact ⟨by rw [hk.le.2.1]; exact hn4 e he, by omega, can_back hfs hk.wf hk.bn (by rw [hk.le.2.1]; exact (hB.all e he).nk), by omega⟩
      -- turned back
      refine sq_setC (c_call (va_cons (val_var rfl) va_nil) ⟨v4, bk4, rfl, hd9, by omega, by decide, fun e' he' => ?_, fun vb H10 e10 hdb => ?_⟩)
      · obtain ⟨e, _, h⟩ := hLK e' he'
        exact ⟨h.laid.strt, h.ns⟩
      have e010 := e09.trans e10
      refine st_seq ?_
      refine c_call (va_cons (val_var rfl) (va_cons (val_var rfl) va_nil)) ⟨sa, ns, v, bk, rfl, e010.seq hS, dp_mono e10 hv9, by omega, hn4, fun fl H11 acc e11 hfl hruns => ?_⟩
      have hv11 := dp_mono (e10.trans e11) hv9
      have hdb11 := dp_mono e11 hdb
      refine ⟨fl, rfl, ⟨_, SqL.of hfl⟩, for_list (xs := acc) (fun i σ H' => ∃ (a5 a6 a7 a8 : Option V), σ = [some (.ref sa), some v, some v4, some v7, some vb, a5, a6, a7, a8] ∧ Same H11 H') ?_ ?_ ?_ ?_⟩
      · exact ⟨none, none, none, none, rfl, Same.refl _⟩
      · rintro i σ H' _ ⟨_, _, _, _, _, e⟩
        exact SqL.of (e _ _ hfl)
      · rintro i x σ H12 hxi ⟨a5, a6, a7, a8, rfl, e12⟩
        obtain ⟨p, na, e, ms, most, rfl, k1, k2, he, hlm, hmost⟩ := hruns x (List.mem_of_getElem? hxi)
        refine ⟨p, _, rfl, same_tup e12 k1, rfl, _, _, rfl, _, _, rfl, _, _, rfl, rfl, ?_⟩
        have hEk := hB.all e he
        obtain ⟨r, g1, hask⟩ := runs_same (most := most) wordOf_inj hBok e.1 ms (by rw [hEk.ar, hlm])
        obtain ⟨mm, hr1⟩ := id g1
        have hin : AskIn (fun f => Strk f = true) r.tr := run1_asks (ok := fun f => Strk f = true) (fun f xs b h => (hB.all _ (bkF_mem _ _ rfl h)).ok) hr1 trivial
        have hlen : r.tr.length ≤ 90000 := by
          have := run1_len (bk := bkF bk) (fun f xs b h => (hB.all _ (bkF_mem _ _ rfl h)).cn) hr1 (Nat.zero_le _)
          simp only [List.length_nil, gsH, phH] at this
          omega
        refine sq_setC (c_call (va_cons (val_var rfl) (va_cons (val_var rfl) (va_cons (val_var rfl) (va_cons (val_var rfl) va_nil)))) ⟨v, e.1, na, most, bk, hd, ms, r, rfl, dp_mono e12 hv11, hB, same_tup e12 k2, by omega, g1, fun v1 H13 e13 hrv => ?_⟩)
        have e1213 := e12.trans e13
        refine c_ifC (c_test (c_opL (c_slX (c_call (va_cons (val_var rfl) (va_cons (val_var rfl) (va_cons (val_var rfl) (va_cons (val_var rfl) va_nil)))) ⟨vb, e.1, na, most, backBk bk4, ms, r, rfl, dp_mono e1213 hdb11, by simp only [backBk, List.length_map]; omega, same_tup e1213 k2, hbb, hlen, hask, fun v2 H14 e14 hrv2 => ?_⟩))))
        refine to_none _ (to_some val_c _ (rv_cut hrv2 fun p1 H15 e15 dd1 => ?_))
        refine c_slX (c_val (val_var rfl) (to_none _ (to_some val_c _ (rv_cut (hrv.same (e14.trans e15)) fun p2 H16 e16 dd2 => ?_))))
        have hsr := shaped_res hin
        refine ⟨encRes r, encRes r, dp_mono e16 dd1, dd2, hsr, hsr, false, by rw [SeqAt.eqv_refl _ (SeqAt.canLay_of_shaped hsr)]; rfl, iteF ?_⟩
        exact ⟨_, _, _, _, rfl, e1213.trans (e14.trans (e15.trans e16))⟩
      · rintro σ H12 ⟨_, _, _, _, rfl, _⟩
        dsimp only
        exact st_ret val_c (q _)
    · obtain ⟨e, he, h⟩ := hLK e' he'
      have z1 := h.csz
      have z2 := hs e he
      have z3 := sz_laid h.laid 62 e'.2.1 (lok_again har h)
      omega
  · refine sq_yes (a_isN (val_var rfl) (by decide +kernel)) ?_
    exact st_ret val_c (q _)
end
end Wn
end
section
set_option Elab.async false
set_option linter.all false
set_option maxRecDepth 100000
set_option maxHeartbeats 4000000
/-! The end: what the top has written (printed by gen.py). -/
namespace Wn
open PySem PySem.Spec PyProof.Rows L2
theorem exm_selfW {K : PySem.W.Frag} {S : Addr} (h1 : PySem.W.subIn K (.ref S) (.type "BaseException") = some true) (h2 : PySem.W.isClsIn K S = true) (h3 : PySem.W.typeIn K (.ref S) = some (.type "type")) (h4 : PySem.W.subIn K (.ref S) (.ref S) = some true) :
    PySem.W.exmOne K (.ref S) (.ref S) = some true := by
  have g1 : (PySem.W.subIn K (.ref S) (.type "BaseException") == some true) = true := by rw [h1] <;> rfl
  have g2 : ((PySem.W.clsIn K S).isSome && PySem.W.typeIn K (.ref S) == some (.type "type")) = true := by
    have g3 : (PySem.W.clsIn K S).isSome = true := h2
    rw [g3, h3] <;> rfl
  show (if (PySem.W.subIn K (.ref S) (.type "BaseException") == some true) = true then
      (if ((PySem.W.clsIn K S).isSome && PySem.W.typeIn K (.ref S) == some (.type "type")) = true then
        PySem.W.subIn K (.ref S) (.ref S)
        else none)
      else none) = some true
  rw [if_pos g1, if_pos g2]
  exact h4
theorem all_mk {P : Program} {w : World} {K : PySem.W.Frag} {h : Heap} {mg : Str → Option Value} {fa cL cT cN cB : Addr} (X : K.In h) (G : h.Ns mainGlobals mg) (hfa : mg "law" = some (.ref fa))
    {f0 : Addr} {od0 an0 : Option Addr} {sl0 : Array (Option Value)} {oc0 kV0 dc0 pm0 cd0 ct0 : Value}
    {f1 : Addr} {od1 an1 : Option Addr} {sl1 : Array (Option Value)} {oc1 kV1 dc1 pm1 cd1 ct1 : Value}
    {f2 : Addr} {od2 an2 : Option Addr} {sl2 : Array (Option Value)} {oc2 kV2 dc2 pm2 cd2 ct2 : Value}
    {f3 : Addr} {od3 an3 : Option Addr} {sl3 : Array (Option Value)} {oc3 kV3 dc3 pm3 cd3 ct3 : Value}
    {f4 : Addr} {od4 an4 : Option Addr} {sl4 : Array (Option Value)} {oc4 kV4 dc4 pm4 cd4 ct4 : Value}
    {f5 : Addr} {od5 an5 : Option Addr} {sl5 : Array (Option Value)} {oc5 kV5 dc5 pm5 cd5 ct5 : Value}
    {f6 : Addr} {od6 an6 : Option Addr} {sl6 : Array (Option Value)} {oc6 kV6 dc6 pm6 cd6 ct6 : Value}
    {f7 : Addr} {od7 an7 : Option Addr} {sl7 : Array (Option Value)} {oc7 kV7 dc7 pm7 cd7 ct7 : Value}
    {f8 : Addr} {od8 an8 : Option Addr} {sl8 : Array (Option Value)} {oc8 kV8 dc8 pm8 cd8 ct8 : Value}
    {f9 : Addr} {od9 an9 : Option Addr} {sl9 : Array (Option Value)} {oc9 kV9 dc9 pm9 cd9 ct9 : Value}
    {f10 : Addr} {od10 an10 : Option Addr} {sl10 : Array (Option Value)} {oc10 kV10 dc10 pm10 cd10 ct10 : Value}
    {f11 : Addr} {od11 an11 : Option Addr} {sl11 : Array (Option Value)} {oc11 kV11 dc11 pm11 cd11 ct11 : Value}
    {f12 : Addr} {od12 an12 : Option Addr} {sl12 : Array (Option Value)} {oc12 kV12 dc12 pm12 cd12 ct12 : Value}
    {f13 : Addr} {od13 an13 : Option Addr} {sl13 : Array (Option Value)} {oc13 kV13 dc13 pm13 cd13 ct13 : Value}
    {f14 : Addr} {od14 an14 : Option Addr} {sl14 : Array (Option Value)} {oc14 kV14 dc14 pm14 cd14 ct14 : Value}
    {f15 : Addr} {od15 an15 : Option Addr} {sl15 : Array (Option Value)} {oc15 kV15 dc15 pm15 cd15 ct15 : Value}
    {f16 : Addr} {od16 an16 : Option Addr} {sl16 : Array (Option Value)} {oc16 kV16 dc16 pm16 cd16 ct16 : Value}
    {f17 : Addr} {od17 an17 : Option Addr} {sl17 : Array (Option Value)} {oc17 kV17 dc17 pm17 cd17 ct17 : Value}
    {f18 : Addr} {od18 an18 : Option Addr} {sl18 : Array (Option Value)} {oc18 kV18 dc18 pm18 cd18 ct18 : Value}
    {f19 : Addr} {od19 an19 : Option Addr} {sl19 : Array (Option Value)} {oc19 kV19 dc19 pm19 cd19 ct19 : Value}
    {f20 : Addr} {od20 an20 : Option Addr} {sl20 : Array (Option Value)} {oc20 kV20 dc20 pm20 cd20 ct20 : Value}
    {f21 : Addr} {od21 an21 : Option Addr} {sl21 : Array (Option Value)} {oc21 kV21 dc21 pm21 cd21 ct21 : Value}
    {f22 : Addr} {od22 an22 : Option Addr} {sl22 : Array (Option Value)} {oc22 kV22 dc22 pm22 cd22 ct22 : Value}
    {f23 : Addr} {od23 an23 : Option Addr} {sl23 : Array (Option Value)} {oc23 kV23 dc23 pm23 cd23 ct23 : Value}
    {f24 : Addr} {od24 an24 : Option Addr} {sl24 : Array (Option Value)} {oc24 kV24 dc24 pm24 cd24 ct24 : Value}
    {f25 : Addr} {od25 an25 : Option Addr} {sl25 : Array (Option Value)} {oc25 kV25 dc25 pm25 cd25 ct25 : Value}
    {f26 : Addr} {od26 an26 : Option Addr} {sl26 : Array (Option Value)} {oc26 kV26 dc26 pm26 cd26 ct26 : Value}
    {f27 : Addr} {od27 an27 : Option Addr} {sl27 : Array (Option Value)} {oc27 kV27 dc27 pm27 cd27 ct27 : Value}
    {f28 : Addr} {od28 an28 : Option Addr} {sl28 : Array (Option Value)} {oc28 kV28 dc28 pm28 cd28 ct28 : Value}
    {f29 : Addr} {od29 an29 : Option Addr} {sl29 : Array (Option Value)} {oc29 kV29 dc29 pm29 cd29 ct29 : Value}
    {f30 : Addr} {od30 an30 : Option Addr} {sl30 : Array (Option Value)} {oc30 kV30 dc30 pm30 cd30 ct30 : Value}
    {f31 : Addr} {od31 an31 : Option Addr} {sl31 : Array (Option Value)} {oc31 kV31 dc31 pm31 cd31 ct31 : Value}
    {f32 : Addr} {od32 an32 : Option Addr} {sl32 : Array (Option Value)} {oc32 kV32 dc32 pm32 cd32 ct32 : Value}
    {f33 : Addr} {od33 an33 : Option Addr} {sl33 : Array (Option Value)} {oc33 kV33 dc33 pm33 cd33 ct33 : Value}
    {f34 : Addr} {od34 an34 : Option Addr} {sl34 : Array (Option Value)} {oc34 kV34 dc34 pm34 cd34 ct34 : Value}
    {f35 : Addr} {od35 an35 : Option Addr} {sl35 : Array (Option Value)} {oc35 kV35 dc35 pm35 cd35 ct35 : Value}
    {f36 : Addr} {od36 an36 : Option Addr} {sl36 : Array (Option Value)} {oc36 kV36 dc36 pm36 cd36 ct36 : Value}
    {f37 : Addr} {od37 an37 : Option Addr} {sl37 : Array (Option Value)} {oc37 kV37 dc37 pm37 cd37 ct37 : Value}
    {f38 : Addr} {od38 an38 : Option Addr} {sl38 : Array (Option Value)} {oc38 kV38 dc38 pm38 cd38 ct38 : Value}
    {f39 : Addr} {od39 an39 : Option Addr} {sl39 : Array (Option Value)} {oc39 kV39 dc39 pm39 cd39 ct39 : Value}
    {f40 : Addr} {od40 an40 : Option Addr} {sl40 : Array (Option Value)} {oc40 kV40 dc40 pm40 cd40 ct40 : Value}
    {f41 : Addr} {od41 an41 : Option Addr} {sl41 : Array (Option Value)} {oc41 kV41 dc41 pm41 cd41 ct41 : Value}
    {f42 : Addr} {od42 an42 : Option Addr} {sl42 : Array (Option Value)} {oc42 kV42 dc42 pm42 cd42 ct42 : Value}
    {f43 : Addr} {od43 an43 : Option Addr} {sl43 : Array (Option Value)} {oc43 kV43 dc43 pm43 cd43 ct43 : Value}
    {f44 : Addr} {od44 an44 : Option Addr} {sl44 : Array (Option Value)} {oc44 kV44 dc44 pm44 cd44 ct44 : Value}
    {f45 : Addr} {od45 an45 : Option Addr} {sl45 : Array (Option Value)} {oc45 kV45 dc45 pm45 cd45 ct45 : Value}
    {f46 : Addr} {od46 an46 : Option Addr} {sl46 : Array (Option Value)} {oc46 kV46 dc46 pm46 cd46 ct46 : Value}
    {f47 : Addr} {od47 an47 : Option Addr} {sl47 : Array (Option Value)} {oc47 kV47 dc47 pm47 cd47 ct47 : Value}
    {f48 : Addr} {od48 an48 : Option Addr} {sl48 : Array (Option Value)} {oc48 kV48 dc48 pm48 cd48 ct48 : Value}
    {f49 : Addr} {od49 an49 : Option Addr} {sl49 : Array (Option Value)} {oc49 kV49 dc49 pm49 cd49 ct49 : Value}
    {f50 : Addr} {od50 an50 : Option Addr} {sl50 : Array (Option Value)} {oc50 kV50 dc50 pm50 cd50 ct50 : Value}
    {f51 : Addr} {od51 an51 : Option Addr} {sl51 : Array (Option Value)} {oc51 kV51 dc51 pm51 cd51 ct51 : Value}
    {f52 : Addr} {od52 an52 : Option Addr} {sl52 : Array (Option Value)} {oc52 kV52 dc52 pm52 cd52 ct52 : Value}
    {f53 : Addr} {od53 an53 : Option Addr} {sl53 : Array (Option Value)} {oc53 kV53 dc53 pm53 cd53 ct53 : Value}
    {f54 : Addr} {od54 an54 : Option Addr} {sl54 : Array (Option Value)} {oc54 kV54 dc54 pm54 cd54 ct54 : Value}
    {tk1 tk2 tk3 : Tok} {nmT qT : Str} {NT : Addr} {bsT : List Value} {snT : List Str} {subT : List Value} {abT : Bool} {colT : Option Bool} {ddT : Option Addr} {m0T m1T m2T m3T m5T : Option Value}
    (aL : PySem.W.nsIn K mainGlobals "Layer" = some (some (.ref cL)))
    (aT : PySem.W.nsIn K mainGlobals "TooGreat" = some (some (.ref cT)))
    (aN : PySem.W.nsIn K mainGlobals "NextError" = some (some (.ref cN)))
    (aB : PySem.W.nsIn K mainGlobals "Bent" = some (some (.ref cB)))
    (a0 : PySem.W.findIn K (.ref cB) "__init__" = some (some (.ref f0)))
    (l0 : K.lookup f0 = some ⟨oc0, od0, .func (PySem.W.fnOf "__init__" "Bent.__init__" (defArgs s_Bent_init) (defBody s_Bent_init) (defScope s_Bent_init) .none kV0 dc0 pm0 an0 cd0 ct0), sl0⟩)
    (c0 : PySem.W.codeIn K cd0 "Bent.__init__" = true)
    (k0 : PySem.W.keepIn K (.ref f0) = true)
    (a1 : PySem.W.findIn K (.ref cT) "__init__" = some (some (.ref f1)))
    (l1 : K.lookup f1 = some ⟨oc1, od1, .func (PySem.W.fnOf "__init__" "TooGreat.__init__" (defArgs s_TooGreat_init) (defBody s_TooGreat_init) (defScope s_TooGreat_init) .none kV1 dc1 pm1 an1 cd1 ct1), sl1⟩)
    (c1 : PySem.W.codeIn K cd1 "TooGreat.__init__" = true)
    (k1 : PySem.W.keepIn K (.ref f1) = true)
    (a2 : PySem.W.nsIn K mainGlobals "parts_of" = some (some (.ref f2)))
    (l2 : K.lookup f2 = some ⟨oc2, od2, .func (PySem.W.fnOf "parts_of" "parts_of" (defArgs s_parts_of) (defBody s_parts_of) (defScope s_parts_of) .none kV2 dc2 pm2 an2 cd2 ct2), sl2⟩)
    (c2 : PySem.W.codeIn K cd2 "parts_of" = true)
    (k2 : PySem.W.keepIn K (.ref f2) = true)
    (a3 : PySem.W.nsIn K mainGlobals "places_in" = some (some (.ref f3)))
    (l3 : K.lookup f3 = some ⟨oc3, od3, .func (PySem.W.fnOf "places_in" "places_in" (defArgs s_places_in) (defBody s_places_in) (defScope s_places_in) .none kV3 dc3 pm3 an3 cd3 ct3), sl3⟩)
    (c3 : PySem.W.codeIn K cd3 "places_in" = true)
    (k3 : PySem.W.keepIn K (.ref f3) = true)
    (a4 : PySem.W.nsIn K mainGlobals "inner_turned" = some (some (.ref f4)))
    (l4 : K.lookup f4 = some ⟨oc4, od4, .func (PySem.W.fnOf "inner_turned" "inner_turned" (defArgs s_inner_turned) (defBody s_inner_turned) (defScope s_inner_turned) .none kV4 dc4 pm4 an4 cd4 ct4), sl4⟩)
    (c4 : PySem.W.codeIn K cd4 "inner_turned" = true)
    (k4 : PySem.W.keepIn K (.ref f4) = true)
    (a5 : PySem.W.nsIn K mainGlobals "inner_simple" = some (some (.ref f5)))
    (l5 : K.lookup f5 = some ⟨oc5, od5, .func (PySem.W.fnOf "inner_simple" "inner_simple" (defArgs s_inner_simple) (defBody s_inner_simple) (defScope s_inner_simple) .none kV5 dc5 pm5 an5 cd5 ct5), sl5⟩)
    (c5 : PySem.W.codeIn K cd5 "inner_simple" = true)
    (k5 : PySem.W.keepIn K (.ref f5) = true)
    (a6 : PySem.W.nsIn K mainGlobals "hand_of" = some (some (.ref f6)))
    (l6 : K.lookup f6 = some ⟨oc6, od6, .func (PySem.W.fnOf "hand_of" "hand_of" (defArgs s_hand_of) (defBody s_hand_of) (defScope s_hand_of) .none kV6 dc6 pm6 an6 cd6 ct6), sl6⟩)
    (c6 : PySem.W.codeIn K cd6 "hand_of" = true)
    (k6 : PySem.W.keepIn K (.ref f6) = true)
    (a7 : PySem.W.nsIn K mainGlobals "word_of" = some (some (.ref f7)))
    (l7 : K.lookup f7 = some ⟨oc7, od7, .func (PySem.W.fnOf "word_of" "word_of" (defArgs s_word_of) (defBody s_word_of) (defScope s_word_of) .none kV7 dc7 pm7 an7 cd7 ct7), sl7⟩)
    (c7 : PySem.W.codeIn K cd7 "word_of" = true)
    (k7 : PySem.W.keepIn K (.ref f7) = true)
    (a8 : PySem.W.nsIn K mainGlobals "term_by" = some (some (.ref f8)))
    (l8 : K.lookup f8 = some ⟨oc8, od8, .func (PySem.W.fnOf "term_by" "term_by" (defArgs s_term_by) (defBody s_term_by) (defScope s_term_by) .none kV8 dc8 pm8 an8 cd8 ct8), sl8⟩)
    (c8 : PySem.W.codeIn K cd8 "term_by" = true)
    (k8 : PySem.W.keepIn K (.ref f8) = true)
    (a9 : PySem.W.nsIn K mainGlobals "is_laid_part" = some (some (.ref f9)))
    (l9 : K.lookup f9 = some ⟨oc9, od9, .func (PySem.W.fnOf "is_laid_part" "is_laid_part" (defArgs s_is_laid_part) (defBody s_is_laid_part) (defScope s_is_laid_part) .none kV9 dc9 pm9 an9 cd9 ct9), sl9⟩)
    (c9 : PySem.W.codeIn K cd9 "is_laid_part" = true)
    (k9 : PySem.W.keepIn K (.ref f9) = true)
    (a10 : PySem.W.nsIn K mainGlobals "is_laid" = some (some (.ref f10)))
    (l10 : K.lookup f10 = some ⟨oc10, od10, .func (PySem.W.fnOf "is_laid" "is_laid" (defArgs s_is_laid) (defBody s_is_laid) (defScope s_is_laid) .none kV10 dc10 pm10 an10 cd10 ct10), sl10⟩)
    (c10 : PySem.W.codeIn K cd10 "is_laid" = true)
    (k10 : PySem.W.keepIn K (.ref f10) = true)
    (a11 : PySem.W.findIn K (.ref cL) "__init__" = some (some (.ref f11)))
    (i11 : PySem.W.isFn K (.ref f11) = true)
    (l11 : K.lookup f11 = some ⟨oc11, od11, .func (PySem.W.fnOf "__init__" "Layer.__init__" (defArgs s_Layer_init) (defBody s_Layer_init) (defScope s_Layer_init) .none kV11 dc11 pm11 an11 cd11 ct11), sl11⟩)
    (c11 : PySem.W.codeIn K cd11 "Layer.__init__" = true)
    (k11 : PySem.W.keepIn K (.ref f11) = true)
    (a12 : PySem.W.findIn K (.ref cL) "new_word" = some (some (.ref f12)))
    (i12 : PySem.W.isFn K (.ref f12) = true)
    (l12 : K.lookup f12 = some ⟨oc12, od12, .func (PySem.W.fnOf "new_word" "Layer.new_word" (defArgs s_Layer_new_word) (defBody s_Layer_new_word) (defScope s_Layer_new_word) .none kV12 dc12 pm12 an12 cd12 ct12), sl12⟩)
    (c12 : PySem.W.codeIn K cd12 "Layer.new_word" = true)
    (k12 : PySem.W.keepIn K (.ref f12) = true)
    (a13 : PySem.W.findIn K (.ref cL) "new_hand" = some (some (.ref f13)))
    (i13 : PySem.W.isFn K (.ref f13) = true)
    (l13 : K.lookup f13 = some ⟨oc13, od13, .func (PySem.W.fnOf "new_hand" "Layer.new_hand" (defArgs s_Layer_new_hand) (defBody s_Layer_new_hand) (defScope s_Layer_new_hand) .none kV13 dc13 pm13 an13 cd13 ct13), sl13⟩)
    (c13 : PySem.W.codeIn K cd13 "Layer.new_hand" = true)
    (k13 : PySem.W.keepIn K (.ref f13) = true)
    (a14 : PySem.W.findIn K (.ref cL) "count_part" = some (some (.ref f14)))
    (i14 : PySem.W.isFn K (.ref f14) = true)
    (l14 : K.lookup f14 = some ⟨oc14, od14, .func (PySem.W.fnOf "count_part" "Layer.count_part" (defArgs s_Layer_count_part) (defBody s_Layer_count_part) (defScope s_Layer_count_part) .none kV14 dc14 pm14 an14 cd14 ct14), sl14⟩)
    (c14 : PySem.W.codeIn K cd14 "Layer.count_part" = true)
    (k14 : PySem.W.keepIn K (.ref f14) = true)
    (a15 : PySem.W.findIn K (.ref cL) "lay" = some (some (.ref f15)))
    (i15 : PySem.W.isFn K (.ref f15) = true)
    (l15 : K.lookup f15 = some ⟨oc15, od15, .func (PySem.W.fnOf "lay" "Layer.lay" (defArgs s_Layer_lay) (defBody s_Layer_lay) (defScope s_Layer_lay) .none kV15 dc15 pm15 an15 cd15 ct15), sl15⟩)
    (c15 : PySem.W.codeIn K cd15 "Layer.lay" = true)
    (k15 : PySem.W.keepIn K (.ref f15) = true)
    (a16 : PySem.W.findIn K (.ref cL) "lay_give" = some (some (.ref f16)))
    (i16 : PySem.W.isFn K (.ref f16) = true)
    (l16 : K.lookup f16 = some ⟨oc16, od16, .func (PySem.W.fnOf "lay_give" "Layer.lay_give" (defArgs s_Layer_lay_give) (defBody s_Layer_lay_give) (defScope s_Layer_lay_give) .none kV16 dc16 pm16 an16 cd16 ct16), sl16⟩)
    (c16 : PySem.W.codeIn K cd16 "Layer.lay_give" = true)
    (k16 : PySem.W.keepIn K (.ref f16) = true)
    (a17 : PySem.W.findIn K (.ref cL) "lay_ask" = some (some (.ref f17)))
    (i17 : PySem.W.isFn K (.ref f17) = true)
    (l17 : K.lookup f17 = some ⟨oc17, od17, .func (PySem.W.fnOf "lay_ask" "Layer.lay_ask" (defArgs s_Layer_lay_ask) (defBody s_Layer_lay_ask) (defScope s_Layer_lay_ask) .none kV17 dc17 pm17 an17 cd17 ct17), sl17⟩)
    (c17 : PySem.W.codeIn K cd17 "Layer.lay_ask" = true)
    (k17 : PySem.W.keepIn K (.ref f17) = true)
    (a18 : PySem.W.findIn K (.ref cL) "lay_on" = some (some (.ref f18)))
    (i18 : PySem.W.isFn K (.ref f18) = true)
    (l18 : K.lookup f18 = some ⟨oc18, od18, .func (PySem.W.fnOf "lay_on" "Layer.lay_on" (defArgs s_Layer_lay_on) (defBody s_Layer_lay_on) (defScope s_Layer_lay_on) .none kV18 dc18 pm18 an18 cd18 ct18), sl18⟩)
    (c18 : PySem.W.codeIn K cd18 "Layer.lay_on" = true)
    (k18 : PySem.W.keepIn K (.ref f18) = true)
    (a19 : PySem.W.nsIn K mainGlobals "laid" = some (some (.ref f19)))
    (l19 : K.lookup f19 = some ⟨oc19, od19, .func (PySem.W.fnOf "laid" "laid" (defArgs s_laid) (defBody s_laid) (defScope s_laid) .none kV19 dc19 pm19 an19 cd19 ct19), sl19⟩)
    (c19 : PySem.W.codeIn K cd19 "laid" = true)
    (k19 : PySem.W.keepIn K (.ref f19) = true)
    (a20 : PySem.W.nsIn K mainGlobals "bent_in" = some (some (.ref f20)))
    (l20 : K.lookup f20 = some ⟨oc20, od20, .func (PySem.W.fnOf "bent_in" "bent_in" (defArgs s_bent_in) (defBody s_bent_in) (defScope s_bent_in) .none kV20 dc20 pm20 an20 cd20 ct20), sl20⟩)
    (c20 : PySem.W.codeIn K cd20 "bent_in" = true)
    (k20 : PySem.W.keepIn K (.ref f20) = true)
    (a21 : PySem.W.nsIn K mainGlobals "bent_at" = some (some (.ref f21)))
    (l21 : K.lookup f21 = some ⟨oc21, od21, .func (PySem.W.fnOf "bent_at" "bent_at" (defArgs s_bent_at) (defBody s_bent_at) (defScope s_bent_at) .none kV21 dc21 pm21 an21 cd21 ct21), sl21⟩)
    (c21 : PySem.W.codeIn K cd21 "bent_at" = true)
    (k21 : PySem.W.keepIn K (.ref f21) = true)
    (a22 : PySem.W.nsIn K mainGlobals "part_back" = some (some (.ref f22)))
    (l22 : K.lookup f22 = some ⟨oc22, od22, .func (PySem.W.fnOf "part_back" "part_back" (defArgs s_part_back) (defBody s_part_back) (defScope s_part_back) .none kV22 dc22 pm22 an22 cd22 ct22), sl22⟩)
    (c22 : PySem.W.codeIn K cd22 "part_back" = true)
    (k22 : PySem.W.keepIn K (.ref f22) = true)
    (a23 : PySem.W.nsIn K mainGlobals "back" = some (some (.ref f23)))
    (l23 : K.lookup f23 = some ⟨oc23, od23, .func (PySem.W.fnOf "back" "back" (defArgs s_back) (defBody s_back) (defScope s_back) .none kV23 dc23 pm23 an23 cd23 ct23), sl23⟩)
    (c23 : PySem.W.codeIn K cd23 "back" = true)
    (k23 : PySem.W.keepIn K (.ref f23) = true)
    (a24 : PySem.W.nsIn K mainGlobals "_law_cell_at" = some (some (.ref f24)))
    (l24 : K.lookup f24 = some ⟨oc24, od24, .func (PySem.W.fnOf "_law_cell_at" "_law_cell_at" (defArgs s_Lcell_at) (defBody s_Lcell_at) (defScope s_Lcell_at) .none kV24 dc24 pm24 an24 cd24 ct24), sl24⟩)
    (c24 : PySem.W.codeIn K cd24 "_law_cell_at" = true)
    (k24 : PySem.W.keepIn K (.ref f24) = true)
    (a25 : PySem.W.nsIn K mainGlobals "_law_tape" = some (some (.ref f25)))
    (l25 : K.lookup f25 = some ⟨oc25, od25, .func (PySem.W.fnOf "_law_tape" "_law_tape" (defArgs s_Ltape) (defBody s_Ltape) (defScope s_Ltape) .none kV25 dc25 pm25 an25 cd25 ct25), sl25⟩)
    (c25 : PySem.W.codeIn K cd25 "_law_tape" = true)
    (k25 : PySem.W.keepIn K (.ref f25) = true)
    (a26 : PySem.W.nsIn K mainGlobals "_law_digit" = some (some (.ref f26)))
    (l26 : K.lookup f26 = some ⟨oc26, od26, .func (PySem.W.fnOf "_law_digit" "_law_digit" (defArgs s_Ldigit) (defBody s_Ldigit) (defScope s_Ldigit) .none kV26 dc26 pm26 an26 cd26 ct26), sl26⟩)
    (c26 : PySem.W.codeIn K cd26 "_law_digit" = true)
    (k26 : PySem.W.keepIn K (.ref f26) = true)
    (a27 : PySem.W.nsIn K mainGlobals "_law_words" = some (some (.ref f27)))
    (l27 : K.lookup f27 = some ⟨oc27, od27, .func (PySem.W.fnOf "_law_words" "_law_words" (defArgs s_Lwords) (defBody s_Lwords) (defScope s_Lwords) .none kV27 dc27 pm27 an27 cd27 ct27), sl27⟩)
    (c27 : PySem.W.codeIn K cd27 "_law_words" = true)
    (k27 : PySem.W.keepIn K (.ref f27) = true)
    (a28 : PySem.W.nsIn K mainGlobals "_law_number" = some (some (.ref f28)))
    (l28 : K.lookup f28 = some ⟨oc28, od28, .func (PySem.W.fnOf "_law_number" "_law_number" (defArgs s_Lnumber) (defBody s_Lnumber) (defScope s_Lnumber) .none kV28 dc28 pm28 an28 cd28 ct28), sl28⟩)
    (c28 : PySem.W.codeIn K cd28 "_law_number" = true)
    (k28 : PySem.W.keepIn K (.ref f28) = true)
    (a29 : PySem.W.nsIn K mainGlobals "_law_leaf" = some (some (.ref f29)))
    (l29 : K.lookup f29 = some ⟨oc29, od29, .func (PySem.W.fnOf "_law_leaf" "_law_leaf" (defArgs s_Lleaf) (defBody s_Lleaf) (defScope s_Lleaf) .none kV29 dc29 pm29 an29 cd29 ct29), sl29⟩)
    (c29 : PySem.W.codeIn K cd29 "_law_leaf" = true)
    (k29 : PySem.W.keepIn K (.ref f29) = true)
    (a30 : PySem.W.nsIn K mainGlobals "_law_shares" = some (some (.ref f30)))
    (l30 : K.lookup f30 = some ⟨oc30, od30, .func (PySem.W.fnOf "_law_shares" "_law_shares" (defArgs s_Lshares) (defBody s_Lshares) (defScope s_Lshares) .none kV30 dc30 pm30 an30 cd30 ct30), sl30⟩)
    (c30 : PySem.W.codeIn K cd30 "_law_shares" = true)
    (k30 : PySem.W.keepIn K (.ref f30) = true)
    (a31 : PySem.W.nsIn K mainGlobals "_law_less_one" = some (some (.ref f31)))
    (l31 : K.lookup f31 = some ⟨oc31, od31, .func (PySem.W.fnOf "_law_less_one" "_law_less_one" (defArgs s_Lless_one) (defBody s_Lless_one) (defScope s_Lless_one) .none kV31 dc31 pm31 an31 cd31 ct31), sl31⟩)
    (c31 : PySem.W.codeIn K cd31 "_law_less_one" = true)
    (k31 : PySem.W.keepIn K (.ref f31) = true)
    (a32 : PySem.W.nsIn K mainGlobals "_law_numbers" = some (some (.ref f32)))
    (l32 : K.lookup f32 = some ⟨oc32, od32, .func (PySem.W.fnOf "_law_numbers" "_law_numbers" (defArgs s_Lnumbers) (defBody s_Lnumbers) (defScope s_Lnumbers) .none kV32 dc32 pm32 an32 cd32 ct32), sl32⟩)
    (c32 : PySem.W.codeIn K cd32 "_law_numbers" = true)
    (k32 : PySem.W.keepIn K (.ref f32) = true)
    (a33 : PySem.W.nsIn K mainGlobals "_law_parts" = some (some (.ref f33)))
    (l33 : K.lookup f33 = some ⟨oc33, od33, .func (PySem.W.fnOf "_law_parts" "_law_parts" (defArgs s_Lparts) (defBody s_Lparts) (defScope s_Lparts) .none kV33 dc33 pm33 an33 cd33 ct33), sl33⟩)
    (c33 : PySem.W.codeIn K cd33 "_law_parts" = true)
    (k33 : PySem.W.keepIn K (.ref f33) = true)
    (a34 : PySem.W.nsIn K mainGlobals "_law_on" = some (some (.ref f34)))
    (l34 : K.lookup f34 = some ⟨oc34, od34, .func (PySem.W.fnOf "_law_on" "_law_on" (defArgs s_Lon) (defBody s_Lon) (defScope s_Lon) .none kV34 dc34 pm34 an34 cd34 ct34), sl34⟩)
    (c34 : PySem.W.codeIn K cd34 "_law_on" = true)
    (k34 : PySem.W.keepIn K (.ref f34) = true)
    (a35 : PySem.W.nsIn K mainGlobals "_law_asked" = some (some (.ref f35)))
    (l35 : K.lookup f35 = some ⟨oc35, od35, .func (PySem.W.fnOf "_law_asked" "_law_asked" (defArgs s_Lasked) (defBody s_Lasked) (defScope s_Lasked) .none kV35 dc35 pm35 an35 cd35 ct35), sl35⟩)
    (c35 : PySem.W.codeIn K cd35 "_law_asked" = true)
    (k35 : PySem.W.keepIn K (.ref f35) = true)
    (a36 : PySem.W.nsIn K mainGlobals "_law_apply" = some (some (.ref f36)))
    (l36 : K.lookup f36 = some ⟨oc36, od36, .func (PySem.W.fnOf "_law_apply" "_law_apply" (defArgs s_Lapply) (defBody s_Lapply) (defScope s_Lapply) .none kV36 dc36 pm36 an36 cd36 ct36), sl36⟩)
    (c36 : PySem.W.codeIn K cd36 "_law_apply" = true)
    (k36 : PySem.W.keepIn K (.ref f36) = true)
    (a37 : PySem.W.nsIn K mainGlobals "_law_put_in" = some (some (.ref f37)))
    (l37 : K.lookup f37 = some ⟨oc37, od37, .func (PySem.W.fnOf "_law_put_in" "_law_put_in" (defArgs s_Lput_in) (defBody s_Lput_in) (defScope s_Lput_in) .none kV37 dc37 pm37 an37 cd37 ct37), sl37⟩)
    (c37 : PySem.W.codeIn K cd37 "_law_put_in" = true)
    (k37 : PySem.W.keepIn K (.ref f37) = true)
    (a38 : PySem.W.nsIn K mainGlobals "_law_run" = some (some (.ref f38)))
    (l38 : K.lookup f38 = some ⟨oc38, od38, .func (PySem.W.fnOf "_law_run" "_law_run" (defArgs s_Lrun) (defBody s_Lrun) (defScope s_Lrun) .none kV38 dc38 pm38 an38 cd38 ct38), sl38⟩)
    (c38 : PySem.W.codeIn K cd38 "_law_run" = true)
    (k38 : PySem.W.keepIn K (.ref f38) = true)
    (a39 : PySem.W.nsIn K mainGlobals "_law_value" = some (some (.ref f39)))
    (l39 : K.lookup f39 = some ⟨oc39, od39, .func (PySem.W.fnOf "_law_value" "_law_value" (defArgs s_Lvalue) (defBody s_Lvalue) (defScope s_Lvalue) .none kV39 dc39 pm39 an39 cd39 ct39), sl39⟩)
    (c39 : PySem.W.codeIn K cd39 "_law_value" = true)
    (k39 : PySem.W.keepIn K (.ref f39) = true)
    (a40 : PySem.W.nsIn K mainGlobals "_law_turned_run" = some (some (.ref f40)))
    (l40 : K.lookup f40 = some ⟨oc40, od40, .func (PySem.W.fnOf "_law_turned_run" "_law_turned_run" (defArgs s_Lturned_run) (defBody s_Lturned_run) (defScope s_Lturned_run) .none kV40 dc40 pm40 an40 cd40 ct40), sl40⟩)
    (c40 : PySem.W.codeIn K cd40 "_law_turned_run" = true)
    (k40 : PySem.W.keepIn K (.ref f40) = true)
    (a41 : PySem.W.nsIn K mainGlobals "_law_along" = some (some (.ref f41)))
    (l41 : K.lookup f41 = some ⟨oc41, od41, .func (PySem.W.fnOf "_law_along" "_law_along" (defArgs s_Lalong) (defBody s_Lalong) (defScope s_Lalong) .none kV41 dc41 pm41 an41 cd41 ct41), sl41⟩)
    (c41 : PySem.W.codeIn K cd41 "_law_along" = true)
    (k41 : PySem.W.keepIn K (.ref f41) = true)
    (a42 : PySem.W.nsIn K mainGlobals "_law_simple" = some (some (.ref f42)))
    (l42 : K.lookup f42 = some ⟨oc42, od42, .func (PySem.W.fnOf "_law_simple" "_law_simple" (defArgs s_Lsimple) (defBody s_Lsimple) (defScope s_Lsimple) .none kV42 dc42 pm42 an42 cd42 ct42), sl42⟩)
    (c42 : PySem.W.codeIn K cd42 "_law_simple" = true)
    (k42 : PySem.W.keepIn K (.ref f42) = true)
    (a43 : PySem.W.nsIn K mainGlobals "_law_some_hand" = some (some (.ref f43)))
    (l43 : K.lookup f43 = some ⟨oc43, od43, .func (PySem.W.fnOf "_law_some_hand" "_law_some_hand" (defArgs s_Lsome_hand) (defBody s_Lsome_hand) (defScope s_Lsome_hand) .none kV43 dc43 pm43 an43 cd43 ct43), sl43⟩)
    (c43 : PySem.W.codeIn K cd43 "_law_some_hand" = true)
    (k43 : PySem.W.keepIn K (.ref f43) = true)
    (a44 : PySem.W.nsIn K mainGlobals "_law_end" = some (some (.ref f44)))
    (l44 : K.lookup f44 = some ⟨oc44, od44, .func (PySem.W.fnOf "_law_end" "_law_end" (defArgs s_Lend) (defBody s_Lend) (defScope s_Lend) .none kV44 dc44 pm44 an44 cd44 ct44), sl44⟩)
    (c44 : PySem.W.codeIn K cd44 "_law_end" = true)
    (k44 : PySem.W.keepIn K (.ref f44) = true)
    (a45 : PySem.W.nsIn K mainGlobals "_law_part" = some (some (.ref f45)))
    (l45 : K.lookup f45 = some ⟨oc45, od45, .func (PySem.W.fnOf "_law_part" "_law_part" (defArgs s_Lpart) (defBody s_Lpart) (defScope s_Lpart) .none kV45 dc45 pm45 an45 cd45 ct45), sl45⟩)
    (c45 : PySem.W.codeIn K cd45 "_law_part" = true)
    (k45 : PySem.W.keepIn K (.ref f45) = true)
    (a46 : PySem.W.nsIn K mainGlobals "_law_turned_body" = some (some (.ref f46)))
    (l46 : K.lookup f46 = some ⟨oc46, od46, .func (PySem.W.fnOf "_law_turned_body" "_law_turned_body" (defArgs s_Lturned_body) (defBody s_Lturned_body) (defScope s_Lturned_body) .none kV46 dc46 pm46 an46 cd46 ct46), sl46⟩)
    (c46 : PySem.W.codeIn K cd46 "_law_turned_body" = true)
    (k46 : PySem.W.keepIn K (.ref f46) = true)
    (a47 : PySem.W.nsIn K mainGlobals "_law_many_parts" = some (some (.ref f47)))
    (l47 : K.lookup f47 = some ⟨oc47, od47, .func (PySem.W.fnOf "_law_many_parts" "_law_many_parts" (defArgs s_Lmany_parts) (defBody s_Lmany_parts) (defScope s_Lmany_parts) .none kV47 dc47 pm47 an47 cd47 ct47), sl47⟩)
    (c47 : PySem.W.codeIn K cd47 "_law_many_parts" = true)
    (k47 : PySem.W.keepIn K (.ref f47) = true)
    (a48 : PySem.W.nsIn K mainGlobals "_law_turned_book" = some (some (.ref f48)))
    (l48 : K.lookup f48 = some ⟨oc48, od48, .func (PySem.W.fnOf "_law_turned_book" "_law_turned_book" (defArgs s_Lturned_book) (defBody s_Lturned_book) (defScope s_Lturned_book) .none kV48 dc48 pm48 an48 cd48 ct48), sl48⟩)
    (c48 : PySem.W.codeIn K cd48 "_law_turned_book" = true)
    (k48 : PySem.W.keepIn K (.ref f48) = true)
    (a49 : PySem.W.nsIn K mainGlobals "_law_shape_term" = some (some (.ref f49)))
    (l49 : K.lookup f49 = some ⟨oc49, od49, .func (PySem.W.fnOf "_law_shape_term" "_law_shape_term" (defArgs s_Lshape_term) (defBody s_Lshape_term) (defScope s_Lshape_term) .none kV49 dc49 pm49 an49 cd49 ct49), sl49⟩)
    (c49 : PySem.W.codeIn K cd49 "_law_shape_term" = true)
    (k49 : PySem.W.keepIn K (.ref f49) = true)
    (a50 : PySem.W.nsIn K mainGlobals "_law_shape_part" = some (some (.ref f50)))
    (l50 : K.lookup f50 = some ⟨oc50, od50, .func (PySem.W.fnOf "_law_shape_part" "_law_shape_part" (defArgs s_Lshape_part) (defBody s_Lshape_part) (defScope s_Lshape_part) .none kV50 dc50 pm50 an50 cd50 ct50), sl50⟩)
    (c50 : PySem.W.codeIn K cd50 "_law_shape_part" = true)
    (k50 : PySem.W.keepIn K (.ref f50) = true)
    (a51 : PySem.W.nsIn K mainGlobals "_law_shape" = some (some (.ref f51)))
    (l51 : K.lookup f51 = some ⟨oc51, od51, .func (PySem.W.fnOf "_law_shape" "_law_shape" (defArgs s_Lshape) (defBody s_Lshape) (defScope s_Lshape) .none kV51 dc51 pm51 an51 cd51 ct51), sl51⟩)
    (c51 : PySem.W.codeIn K cd51 "_law_shape" = true)
    (k51 : PySem.W.keepIn K (.ref f51) = true)
    (a52 : PySem.W.nsIn K mainGlobals "_law_first_runs" = some (some (.ref f52)))
    (l52 : K.lookup f52 = some ⟨oc52, od52, .func (PySem.W.fnOf "_law_first_runs" "_law_first_runs" (defArgs s_Lfirst_runs) (defBody s_Lfirst_runs) (defScope s_Lfirst_runs) .none kV52 dc52 pm52 an52 cd52 ct52), sl52⟩)
    (c52 : PySem.W.codeIn K cd52 "_law_first_runs" = true)
    (k52 : PySem.W.keepIn K (.ref f52) = true)
    (a53 : PySem.W.nsIn K mainGlobals "_law_told" = some (some (.ref f53)))
    (l53 : K.lookup f53 = some ⟨oc53, od53, .func (PySem.W.fnOf "_law_told" "_law_told" (defArgs s_Ltold) (defBody s_Ltold) (defScope s_Ltold) .none kV53 dc53 pm53 an53 cd53 ct53), sl53⟩)
    (c53 : PySem.W.codeIn K cd53 "_law_told" = true)
    (k53 : PySem.W.keepIn K (.ref f53) = true)
    (a54 : PySem.W.nsIn K mainGlobals "law" = some (some (.ref f54)))
    (l54 : K.lookup f54 = some ⟨oc54, od54, .func (PySem.W.fnOf "law" "law" (defArgs s_law) (defBody s_law) (defScope s_law) .none kV54 dc54 pm54 an54 cd54 ct54), sl54⟩)
    (c54 : PySem.W.codeIn K cd54 "law" = true)
    (k54 : PySem.W.keepIn K (.ref f54) = true)
    (z_len : PySem.W.nsIn K mainGlobals "len" = some none)
    (z_enumerate : PySem.W.nsIn K mainGlobals "enumerate" = some none)
    (z_tuple : PySem.W.nsIn K mainGlobals "tuple" = some none)
    (z_all : PySem.W.nsIn K mainGlobals "all" = some none)
    (z_sum : PySem.W.nsIn K mainGlobals "sum" = some none)
    (z_dict : PySem.W.nsIn K mainGlobals "dict" = some none)
    (z_list : PySem.W.nsIn K mainGlobals "list" = some none)
    (z_range : PySem.W.nsIn K mainGlobals "range" = some none)
    (z_max : PySem.W.nsIn K mainGlobals "max" = some none)
    (z_int : PySem.W.nsIn K mainGlobals "int" = some none)
    (z_isinstance : PySem.W.nsIn K mainGlobals "isinstance" = some none)
    (g1 : PySem.W.nsIn K mainGlobals "LETTERS" = some (some (.str "abcdefghijklmnopqrstuvwxyz" tk1)))
    (g2 : PySem.W.nsIn K mainGlobals "HOME" = some (some (.str "home" tk2)))
    (g3 : PySem.W.nsIn K mainGlobals "MOST_LAID" = some (some (.int 200 tk3)))
    (pg : PySem.W.plainGet K cL Str.empty = true)
    (hdL : PySem.W.hasDictIn K cL = true)
    (po : PySem.W.plainOver K cL = true)
    (saL : PySem.W.findIn K (.ref cL) "__setattr__" = some (some (.builtin "object.__setattr__")))
    (mk : PySem.W.makesIn K cL = true)
    (kcL : PySem.W.keepIn K (.ref cL) = true)
    (na_name : PySem.W.findIn K (.ref cL) "name" = some none)
    (na_words : PySem.W.findIn K (.ref cL) "words" = some none)
    (na_named : PySem.W.findIn K (.ref cL) "named" = some none)
    (na_posted : PySem.W.findIn K (.ref cL) "posted" = some none)
    (na_many : PySem.W.findIn K (.ref cL) "many" = some none)
    (xT : K.lookup cT = some (excClassObj nmT qT cT NT bsT [.ref cN, .type "ValueError", .type "Exception", .type "BaseException", .type "object"] true snT subT abT colT ddT m0T m1T m2T m3T m5T "ValueError.__new__"))
    (saT : PySem.W.findIn K (.ref cT) "__setattr__" = some (some (.builtin "object.__setattr__")))
    (eC : PySem.W.subIn K (.ref cT) (.type "BaseException") = some true)
    (tC : PySem.W.typeIn K (.ref cT) = some (.type "type"))
    (kcT : PySem.W.keepIn K (.ref cT) = true)
    (icT : PySem.W.isClsIn K cT = true)
    (sT : PySem.W.subIn K (.ref cT) (.ref cT) = some true)
    (tT : PySem.W.typeIn K (.ref f1) = some (.type "function"))
    (nT : PySem.W.findIn K (.ref cT) "name" = some none)
    (rN : PySem.W.readsIn K cN (.type "type") = true)
    (gN : PySem.W.specialIn K (.ref cN) "__getattribute__" = some (some (.builtin "type.__getattribute__")))
    (vN : PySem.W.findCls K (.ref cN) (.type "type") "__init__" = some (.val (.builtin "ValueError.__init__")))
    : ∃ fd : FuncData, (∀ (s : Shared) (v : Value), BindsTo s fd ⟨[v], []⟩ [("script", v)]) ∧ ∀ base : Heap, K.In base → base.Ns mainGlobals mg → FnOk P w K mg base CX0 199 fa fd ["script"] (spLaw K) := by
  have e := hfa.symm.trans (PySem.W.mg_of X G a54)
  have e2 : f54 = fa := (Value.ref.inj (Option.some.inj e)).symm
  subst e2
  have T : Tx K mg (fun i => [f0, f1, f2, f3, f4, f5, f6, f7, f8, f9, f10, f11, f12, f13, f14, f15, f16, f17, f18, f19, f20, f21, f22, f23, f24, f25, f26, f27, f28, f29, f30, f31, f32, f33, f34, f35, f36, f37, f38, f39, f40, f41, f42, f43, f44, f45, f46, f47, f48, f49, f50, f51, f52, f53, f54].getD i f0)
      (fun i => [(PySem.W.fnOf "__init__" "Bent.__init__" (defArgs s_Bent_init) (defBody s_Bent_init) (defScope s_Bent_init) .none kV0 dc0 pm0 an0 cd0 ct0), (PySem.W.fnOf "__init__" "TooGreat.__init__" (defArgs s_TooGreat_init) (defBody s_TooGreat_init) (defScope s_TooGreat_init) .none kV1 dc1 pm1 an1 cd1 ct1), (PySem.W.fnOf "parts_of" "parts_of" (defArgs s_parts_of) (defBody s_parts_of) (defScope s_parts_of) .none kV2 dc2 pm2 an2 cd2 ct2), (PySem.W.fnOf "places_in" "places_in" (defArgs s_places_in) (defBody s_places_in) (defScope s_places_in) .none kV3 dc3 pm3 an3 cd3 ct3), (PySem.W.fnOf "inner_turned" "inner_turned" (defArgs s_inner_turned) (defBody s_inner_turned) (defScope s_inner_turned) .none kV4 dc4 pm4 an4 cd4 ct4), (PySem.W.fnOf "inner_simple" "inner_simple" (defArgs s_inner_simple) (defBody s_inner_simple) (defScope s_inner_simple) .none kV5 dc5 pm5 an5 cd5 ct5), (PySem.W.fnOf "hand_of" "hand_of" (defArgs s_hand_of) (defBody s_hand_of) (defScope s_hand_of) .none kV6 dc6 pm6 an6 cd6 ct6), (PySem.W.fnOf "word_of" "word_of" (defArgs s_word_of) (defBody s_word_of) (defScope s_word_of) .none kV7 dc7 pm7 an7 cd7 ct7), (PySem.W.fnOf "term_by" "term_by" (defArgs s_term_by) (defBody s_term_by) (defScope s_term_by) .none kV8 dc8 pm8 an8 cd8 ct8), (PySem.W.fnOf "is_laid_part" "is_laid_part" (defArgs s_is_laid_part) (defBody s_is_laid_part) (defScope s_is_laid_part) .none kV9 dc9 pm9 an9 cd9 ct9), (PySem.W.fnOf "is_laid" "is_laid" (defArgs s_is_laid) (defBody s_is_laid) (defScope s_is_laid) .none kV10 dc10 pm10 an10 cd10 ct10), (PySem.W.fnOf "__init__" "Layer.__init__" (defArgs s_Layer_init) (defBody s_Layer_init) (defScope s_Layer_init) .none kV11 dc11 pm11 an11 cd11 ct11), (PySem.W.fnOf "new_word" "Layer.new_word" (defArgs s_Layer_new_word) (defBody s_Layer_new_word) (defScope s_Layer_new_word) .none kV12 dc12 pm12 an12 cd12 ct12), (PySem.W.fnOf "new_hand" "Layer.new_hand" (defArgs s_Layer_new_hand) (defBody s_Layer_new_hand) (defScope s_Layer_new_hand) .none kV13 dc13 pm13 an13 cd13 ct13), (PySem.W.fnOf "count_part" "Layer.count_part" (defArgs s_Layer_count_part) (defBody s_Layer_count_part) (defScope s_Layer_count_part) .none kV14 dc14 pm14 an14 cd14 ct14), (PySem.W.fnOf "lay" "Layer.lay" (defArgs s_Layer_lay) (defBody s_Layer_lay) (defScope s_Layer_lay) .none kV15 dc15 pm15 an15 cd15 ct15), (PySem.W.fnOf "lay_give" "Layer.lay_give" (defArgs s_Layer_lay_give) (defBody s_Layer_lay_give) (defScope s_Layer_lay_give) .none kV16 dc16 pm16 an16 cd16 ct16), (PySem.W.fnOf "lay_ask" "Layer.lay_ask" (defArgs s_Layer_lay_ask) (defBody s_Layer_lay_ask) (defScope s_Layer_lay_ask) .none kV17 dc17 pm17 an17 cd17 ct17), (PySem.W.fnOf "lay_on" "Layer.lay_on" (defArgs s_Layer_lay_on) (defBody s_Layer_lay_on) (defScope s_Layer_lay_on) .none kV18 dc18 pm18 an18 cd18 ct18), (PySem.W.fnOf "laid" "laid" (defArgs s_laid) (defBody s_laid) (defScope s_laid) .none kV19 dc19 pm19 an19 cd19 ct19), (PySem.W.fnOf "bent_in" "bent_in" (defArgs s_bent_in) (defBody s_bent_in) (defScope s_bent_in) .none kV20 dc20 pm20 an20 cd20 ct20), (PySem.W.fnOf "bent_at" "bent_at" (defArgs s_bent_at) (defBody s_bent_at) (defScope s_bent_at) .none kV21 dc21 pm21 an21 cd21 ct21), (PySem.W.fnOf "part_back" "part_back" (defArgs s_part_back) (defBody s_part_back) (defScope s_part_back) .none kV22 dc22 pm22 an22 cd22 ct22), (PySem.W.fnOf "back" "back" (defArgs s_back) (defBody s_back) (defScope s_back) .none kV23 dc23 pm23 an23 cd23 ct23), (PySem.W.fnOf "_law_cell_at" "_law_cell_at" (defArgs s_Lcell_at) (defBody s_Lcell_at) (defScope s_Lcell_at) .none kV24 dc24 pm24 an24 cd24 ct24), (PySem.W.fnOf "_law_tape" "_law_tape" (defArgs s_Ltape) (defBody s_Ltape) (defScope s_Ltape) .none kV25 dc25 pm25 an25 cd25 ct25), (PySem.W.fnOf "_law_digit" "_law_digit" (defArgs s_Ldigit) (defBody s_Ldigit) (defScope s_Ldigit) .none kV26 dc26 pm26 an26 cd26 ct26), (PySem.W.fnOf "_law_words" "_law_words" (defArgs s_Lwords) (defBody s_Lwords) (defScope s_Lwords) .none kV27 dc27 pm27 an27 cd27 ct27), (PySem.W.fnOf "_law_number" "_law_number" (defArgs s_Lnumber) (defBody s_Lnumber) (defScope s_Lnumber) .none kV28 dc28 pm28 an28 cd28 ct28), (PySem.W.fnOf "_law_leaf" "_law_leaf" (defArgs s_Lleaf) (defBody s_Lleaf) (defScope s_Lleaf) .none kV29 dc29 pm29 an29 cd29 ct29), (PySem.W.fnOf "_law_shares" "_law_shares" (defArgs s_Lshares) (defBody s_Lshares) (defScope s_Lshares) .none kV30 dc30 pm30 an30 cd30 ct30), (PySem.W.fnOf "_law_less_one" "_law_less_one" (defArgs s_Lless_one) (defBody s_Lless_one) (defScope s_Lless_one) .none kV31 dc31 pm31 an31 cd31 ct31), (PySem.W.fnOf "_law_numbers" "_law_numbers" (defArgs s_Lnumbers) (defBody s_Lnumbers) (defScope s_Lnumbers) .none kV32 dc32 pm32 an32 cd32 ct32), (PySem.W.fnOf "_law_parts" "_law_parts" (defArgs s_Lparts) (defBody s_Lparts) (defScope s_Lparts) .none kV33 dc33 pm33 an33 cd33 ct33), (PySem.W.fnOf "_law_on" "_law_on" (defArgs s_Lon) (defBody s_Lon) (defScope s_Lon) .none kV34 dc34 pm34 an34 cd34 ct34), (PySem.W.fnOf "_law_asked" "_law_asked" (defArgs s_Lasked) (defBody s_Lasked) (defScope s_Lasked) .none kV35 dc35 pm35 an35 cd35 ct35), (PySem.W.fnOf "_law_apply" "_law_apply" (defArgs s_Lapply) (defBody s_Lapply) (defScope s_Lapply) .none kV36 dc36 pm36 an36 cd36 ct36), (PySem.W.fnOf "_law_put_in" "_law_put_in" (defArgs s_Lput_in) (defBody s_Lput_in) (defScope s_Lput_in) .none kV37 dc37 pm37 an37 cd37 ct37), (PySem.W.fnOf "_law_run" "_law_run" (defArgs s_Lrun) (defBody s_Lrun) (defScope s_Lrun) .none kV38 dc38 pm38 an38 cd38 ct38), (PySem.W.fnOf "_law_value" "_law_value" (defArgs s_Lvalue) (defBody s_Lvalue) (defScope s_Lvalue) .none kV39 dc39 pm39 an39 cd39 ct39), (PySem.W.fnOf "_law_turned_run" "_law_turned_run" (defArgs s_Lturned_run) (defBody s_Lturned_run) (defScope s_Lturned_run) .none kV40 dc40 pm40 an40 cd40 ct40), (PySem.W.fnOf "_law_along" "_law_along" (defArgs s_Lalong) (defBody s_Lalong) (defScope s_Lalong) .none kV41 dc41 pm41 an41 cd41 ct41), (PySem.W.fnOf "_law_simple" "_law_simple" (defArgs s_Lsimple) (defBody s_Lsimple) (defScope s_Lsimple) .none kV42 dc42 pm42 an42 cd42 ct42), (PySem.W.fnOf "_law_some_hand" "_law_some_hand" (defArgs s_Lsome_hand) (defBody s_Lsome_hand) (defScope s_Lsome_hand) .none kV43 dc43 pm43 an43 cd43 ct43), (PySem.W.fnOf "_law_end" "_law_end" (defArgs s_Lend) (defBody s_Lend) (defScope s_Lend) .none kV44 dc44 pm44 an44 cd44 ct44), (PySem.W.fnOf "_law_part" "_law_part" (defArgs s_Lpart) (defBody s_Lpart) (defScope s_Lpart) .none kV45 dc45 pm45 an45 cd45 ct45), (PySem.W.fnOf "_law_turned_body" "_law_turned_body" (defArgs s_Lturned_body) (defBody s_Lturned_body) (defScope s_Lturned_body) .none kV46 dc46 pm46 an46 cd46 ct46), (PySem.W.fnOf "_law_many_parts" "_law_many_parts" (defArgs s_Lmany_parts) (defBody s_Lmany_parts) (defScope s_Lmany_parts) .none kV47 dc47 pm47 an47 cd47 ct47), (PySem.W.fnOf "_law_turned_book" "_law_turned_book" (defArgs s_Lturned_book) (defBody s_Lturned_book) (defScope s_Lturned_book) .none kV48 dc48 pm48 an48 cd48 ct48), (PySem.W.fnOf "_law_shape_term" "_law_shape_term" (defArgs s_Lshape_term) (defBody s_Lshape_term) (defScope s_Lshape_term) .none kV49 dc49 pm49 an49 cd49 ct49), (PySem.W.fnOf "_law_shape_part" "_law_shape_part" (defArgs s_Lshape_part) (defBody s_Lshape_part) (defScope s_Lshape_part) .none kV50 dc50 pm50 an50 cd50 ct50), (PySem.W.fnOf "_law_shape" "_law_shape" (defArgs s_Lshape) (defBody s_Lshape) (defScope s_Lshape) .none kV51 dc51 pm51 an51 cd51 ct51), (PySem.W.fnOf "_law_first_runs" "_law_first_runs" (defArgs s_Lfirst_runs) (defBody s_Lfirst_runs) (defScope s_Lfirst_runs) .none kV52 dc52 pm52 an52 cd52 ct52), (PySem.W.fnOf "_law_told" "_law_told" (defArgs s_Ltold) (defBody s_Ltold) (defScope s_Ltold) .none kV53 dc53 pm53 an53 cd53 ct53), (PySem.W.fnOf "law" "law" (defArgs s_law) (defBody s_law) (defScope s_law) .none kV54 dc54 pm54 an54 cd54 ct54)].getD i (PySem.W.fnOf "__init__" "Bent.__init__" (defArgs s_Bent_init) (defBody s_Bent_init) (defScope s_Bent_init) .none kV0 dc0 pm0 an0 cd0 ct0)) cL cT cN cB :=
    { F_Bent_init := fun_mk (st := s_Bent_init) l0 c0 k0,
      F_TooGreat_init := fun_mk (st := s_TooGreat_init) l1 c1 k1,
      F_parts_of := fun_mk (st := s_parts_of) l2 c2 k2,
      m_parts_of := PySem.W.mg_of X G a2,
      F_places_in := fun_mk (st := s_places_in) l3 c3 k3,
      m_places_in := PySem.W.mg_of X G a3,
      F_inner_turned := fun_mk (st := s_inner_turned) l4 c4 k4,
      m_inner_turned := PySem.W.mg_of X G a4,
      F_inner_simple := fun_mk (st := s_inner_simple) l5 c5 k5,
      m_inner_simple := PySem.W.mg_of X G a5,
      F_hand_of := fun_mk (st := s_hand_of) l6 c6 k6,
      m_hand_of := PySem.W.mg_of X G a6,
      F_word_of := fun_mk (st := s_word_of) l7 c7 k7,
      m_word_of := PySem.W.mg_of X G a7,
      F_term_by := fun_mk (st := s_term_by) l8 c8 k8,
      m_term_by := PySem.W.mg_of X G a8,
      F_is_laid_part := fun_mk (st := s_is_laid_part) l9 c9 k9,
      m_is_laid_part := PySem.W.mg_of X G a9,
      F_is_laid := fun_mk (st := s_is_laid) l10 c10 k10,
      m_is_laid := PySem.W.mg_of X G a10,
      F_Layer_init := fun_mk (st := s_Layer_init) l11 c11 k11,
      F_Layer_new_word := fun_mk (st := s_Layer_new_word) l12 c12 k12,
      me_new_word := ⟨a12, i12, k12⟩,
      F_Layer_new_hand := fun_mk (st := s_Layer_new_hand) l13 c13 k13,
      me_new_hand := ⟨a13, i13, k13⟩,
      F_Layer_count_part := fun_mk (st := s_Layer_count_part) l14 c14 k14,
      me_count_part := ⟨a14, i14, k14⟩,
      F_Layer_lay := fun_mk (st := s_Layer_lay) l15 c15 k15,
      me_lay := ⟨a15, i15, k15⟩,
      F_Layer_lay_give := fun_mk (st := s_Layer_lay_give) l16 c16 k16,
      me_lay_give := ⟨a16, i16, k16⟩,
      F_Layer_lay_ask := fun_mk (st := s_Layer_lay_ask) l17 c17 k17,
      me_lay_ask := ⟨a17, i17, k17⟩,
      F_Layer_lay_on := fun_mk (st := s_Layer_lay_on) l18 c18 k18,
      me_lay_on := ⟨a18, i18, k18⟩,
      F_laid := fun_mk (st := s_laid) l19 c19 k19,
      m_laid := PySem.W.mg_of X G a19,
      F_bent_in := fun_mk (st := s_bent_in) l20 c20 k20,
      m_bent_in := PySem.W.mg_of X G a20,
      F_bent_at := fun_mk (st := s_bent_at) l21 c21 k21,
      m_bent_at := PySem.W.mg_of X G a21,
      F_part_back := fun_mk (st := s_part_back) l22 c22 k22,
      m_part_back := PySem.W.mg_of X G a22,
      F_back := fun_mk (st := s_back) l23 c23 k23,
      m_back := PySem.W.mg_of X G a23,
      F_Lcell_at := fun_mk (st := s_Lcell_at) l24 c24 k24,
      m_Lcell_at := PySem.W.mg_of X G a24,
      F_Ltape := fun_mk (st := s_Ltape) l25 c25 k25,
      m_Ltape := PySem.W.mg_of X G a25,
      F_Ldigit := fun_mk (st := s_Ldigit) l26 c26 k26,
      m_Ldigit := PySem.W.mg_of X G a26,
      F_Lwords := fun_mk (st := s_Lwords) l27 c27 k27,
      m_Lwords := PySem.W.mg_of X G a27,
      F_Lnumber := fun_mk (st := s_Lnumber) l28 c28 k28,
      m_Lnumber := PySem.W.mg_of X G a28,
      F_Lleaf := fun_mk (st := s_Lleaf) l29 c29 k29,
      m_Lleaf := PySem.W.mg_of X G a29,
      F_Lshares := fun_mk (st := s_Lshares) l30 c30 k30,
      m_Lshares := PySem.W.mg_of X G a30,
      F_Lless_one := fun_mk (st := s_Lless_one) l31 c31 k31,
      m_Lless_one := PySem.W.mg_of X G a31,
      F_Lnumbers := fun_mk (st := s_Lnumbers) l32 c32 k32,
      m_Lnumbers := PySem.W.mg_of X G a32,
      F_Lparts := fun_mk (st := s_Lparts) l33 c33 k33,
      m_Lparts := PySem.W.mg_of X G a33,
      F_Lon := fun_mk (st := s_Lon) l34 c34 k34,
      m_Lon := PySem.W.mg_of X G a34,
      F_Lasked := fun_mk (st := s_Lasked) l35 c35 k35,
      m_Lasked := PySem.W.mg_of X G a35,
      F_Lapply := fun_mk (st := s_Lapply) l36 c36 k36,
      m_Lapply := PySem.W.mg_of X G a36,
      F_Lput_in := fun_mk (st := s_Lput_in) l37 c37 k37,
      m_Lput_in := PySem.W.mg_of X G a37,
      F_Lrun := fun_mk (st := s_Lrun) l38 c38 k38,
      m_Lrun := PySem.W.mg_of X G a38,
      F_Lvalue := fun_mk (st := s_Lvalue) l39 c39 k39,
      m_Lvalue := PySem.W.mg_of X G a39,
      F_Lturned_run := fun_mk (st := s_Lturned_run) l40 c40 k40,
      m_Lturned_run := PySem.W.mg_of X G a40,
      F_Lalong := fun_mk (st := s_Lalong) l41 c41 k41,
      m_Lalong := PySem.W.mg_of X G a41,
      F_Lsimple := fun_mk (st := s_Lsimple) l42 c42 k42,
      m_Lsimple := PySem.W.mg_of X G a42,
      F_Lsome_hand := fun_mk (st := s_Lsome_hand) l43 c43 k43,
      m_Lsome_hand := PySem.W.mg_of X G a43,
      F_Lend := fun_mk (st := s_Lend) l44 c44 k44,
      m_Lend := PySem.W.mg_of X G a44,
      F_Lpart := fun_mk (st := s_Lpart) l45 c45 k45,
      m_Lpart := PySem.W.mg_of X G a45,
      F_Lturned_body := fun_mk (st := s_Lturned_body) l46 c46 k46,
      m_Lturned_body := PySem.W.mg_of X G a46,
      F_Lmany_parts := fun_mk (st := s_Lmany_parts) l47 c47 k47,
      m_Lmany_parts := PySem.W.mg_of X G a47,
      F_Lturned_book := fun_mk (st := s_Lturned_book) l48 c48 k48,
      m_Lturned_book := PySem.W.mg_of X G a48,
      F_Lshape_term := fun_mk (st := s_Lshape_term) l49 c49 k49,
      m_Lshape_term := PySem.W.mg_of X G a49,
      F_Lshape_part := fun_mk (st := s_Lshape_part) l50 c50 k50,
      m_Lshape_part := PySem.W.mg_of X G a50,
      F_Lshape := fun_mk (st := s_Lshape) l51 c51 k51,
      m_Lshape := PySem.W.mg_of X G a51,
      F_Lfirst_runs := fun_mk (st := s_Lfirst_runs) l52 c52 k52,
      m_Lfirst_runs := PySem.W.mg_of X G a52,
      F_Ltold := fun_mk (st := s_Ltold) l53 c53 k53,
      m_Ltold := PySem.W.mg_of X G a53,
      F_law := fun_mk (st := s_law) l54 c54 k54,
      m_law := PySem.W.mg_of X G a54,
      z_len := PySem.W.mg_none_of X G z_len,
      z_enumerate := PySem.W.mg_none_of X G z_enumerate,
      z_tuple := PySem.W.mg_none_of X G z_tuple,
      z_all := PySem.W.mg_none_of X G z_all,
      z_sum := PySem.W.mg_none_of X G z_sum,
      z_dict := PySem.W.mg_none_of X G z_dict,
      z_list := PySem.W.mg_none_of X G z_list,
      z_range := PySem.W.mg_none_of X G z_range,
      z_max := PySem.W.mg_none_of X G z_max,
      z_int := PySem.W.mg_none_of X G z_int,
      z_isinstance := PySem.W.mg_none_of X G z_isinstance,
      c_LETTERS := ⟨_, PySem.W.mg_of X G g1⟩,
      c_HOME := ⟨_, PySem.W.mg_of X G g2⟩,
      c_MOST_LAID := ⟨_, PySem.W.mg_of X G g3⟩,
      m_Layer := PySem.W.mg_of X G aL,
      clsL := ⟨pg, hdL, po, saL⟩,
      mkL := ⟨mk, a11, i11, kcL⟩,
      na_name := na_name,
      na_words := na_words,
      na_named := na_named,
      na_posted := na_posted,
      na_many := na_many,
      m_TooGreat := PySem.W.mg_of X G aT,
      m_NextError := PySem.W.mg_of X G aN,
      oT := ⟨⟨nmT, qT, NT, bsT, _, snT, subT, abT, colT, ddT, m0T, m1T, m2T, m3T, m5T, xT, rfl⟩, saT, eC, tC, kcT⟩,
      iT := a1,
      tT := tT,
      nT := nT,
      eT := exm_selfW eC icT tC sT,
      rN := rN,
      gN := gN,
      vN := vN }
  exact ⟨(PySem.W.fnOf "law" "law" (defArgs s_law) (defBody s_law) (defScope s_law) .none kV54 dc54 pm54 an54 cd54 ct54), fun s v => .of_eq rfl, fun base _ _ => ok_law T⟩
theorem walkW {l : PySem.W.OpenLaw} {q : Program} {loose : List Str} {XP : (Str → Option Value) → Heap → Prop} {YP : World → Heap → Prop} {d : DefRec} {K : Params → PySem.W.Frag} (hn : l.most = some 63) (hdf : d.params.defaults = [])
    (hY : ∀ (w : World) (h : Heap), YP w h → (K w.params).In h)
    (F : ∀ (w : World) (mg : Str → Option Value) (fa : Addr) (h : Heap), (K w.params).In h → h.Ns mainGlobals mg → mg d.name = some (.ref fa) →
      ∃ fd : FuncData, (∀ (s : Shared) (u : Value), BindsTo s fd ⟨[u], []⟩ [("script", u)]) ∧ ∀ base : Heap, (K w.params).In base → base.Ns mainGlobals mg → FnOk l.prog w (K w.params) mg base CX0 199 fa fd ["script"] (spLaw (K w.params))) :
    PySem.W.WalkO q loose XP YP l.row.toRowW d [] (fun f vs => PySem.call f vs) :=
  L2.walk_ofB (n := 63) (k := 199) (x := "script") (CX := fun _ => CX0) (sp := fun w => spLaw (K w.params)) hn (by decide) hdf ⟨rfl, by decide, by decide⟩ hY F (fun _ _ a ns _ _ _ hS => ⟨a, ns, rfl, hS, fun _ => rfl⟩) fun _ _ _ _ _ z => z
end Wn
end
open PySem PySem.W PyProof.Rows in
set_option maxRecDepth 100000 in
set_option maxHeartbeats 0 in
theorem PySem.Challenge.cw_whatnext_k33_whole_laid_is_straight_holds : PySem.Challenge.rw_whatnext_k33_whole_laid_is_straight.Holds := by
  w_on; o_law; k_head; (case hw => w_witness2)
  k_fill
  refine Wn.walkW (l := PySem.Challenge.rw_whatnext_k33_whole_laid_is_straight) rfl rfl (fun w h Y => PySem.W.kIn_of Y) ?F
  case F =>
    intro w mg fa h KX G hmg
    refine' Wn.all_mk KX G hmg ?aL ?aT ?aN ?aB ?a0 ?l0 ?c0 ?k0 ?a1 ?l1 ?c1 ?k1 ?a2 ?l2 ?c2 ?k2 ?a3 ?l3 ?c3 ?k3 ?a4 ?l4 ?c4 ?k4 ?a5 ?l5 ?c5 ?k5 ?a6 ?l6 ?c6 ?k6 ?a7 ?l7 ?c7 ?k7 ?a8 ?l8 ?c8 ?k8 ?a9 ?l9 ?c9 ?k9 ?a10 ?l10 ?c10 ?k10 ?a11 ?i11 ?l11 ?c11 ?k11 ?a12 ?i12 ?l12 ?c12 ?k12 ?a13 ?i13 ?l13 ?c13 ?k13 ?a14 ?i14 ?l14 ?c14 ?k14 ?a15 ?i15 ?l15 ?c15 ?k15 ?a16 ?i16 ?l16 ?c16 ?k16 ?a17 ?i17 ?l17 ?c17 ?k17 ?a18 ?i18 ?l18 ?c18 ?k18 ?a19 ?l19 ?c19 ?k19 ?a20 ?l20 ?c20 ?k20 ?a21 ?l21 ?c21 ?k21 ?a22 ?l22 ?c22 ?k22 ?a23 ?l23 ?c23 ?k23 ?a24 ?l24 ?c24 ?k24 ?a25 ?l25 ?c25 ?k25 ?a26 ?l26 ?c26 ?k26 ?a27 ?l27 ?c27 ?k27 ?a28 ?l28 ?c28 ?k28 ?a29 ?l29 ?c29 ?k29 ?a30 ?l30 ?c30 ?k30 ?a31 ?l31 ?c31 ?k31 ?a32 ?l32 ?c32 ?k32 ?a33 ?l33 ?c33 ?k33 ?a34 ?l34 ?c34 ?k34 ?a35 ?l35 ?c35 ?k35 ?a36 ?l36 ?c36 ?k36 ?a37 ?l37 ?c37 ?k37 ?a38 ?l38 ?c38 ?k38 ?a39 ?l39 ?c39 ?k39 ?a40 ?l40 ?c40 ?k40 ?a41 ?l41 ?c41 ?k41 ?a42 ?l42 ?c42 ?k42 ?a43 ?l43 ?c43 ?k43 ?a44 ?l44 ?c44 ?k44 ?a45 ?l45 ?c45 ?k45 ?a46 ?l46 ?c46 ?k46 ?a47 ?l47 ?c47 ?k47 ?a48 ?l48 ?c48 ?k48 ?a49 ?l49 ?c49 ?k49 ?a50 ?l50 ?c50 ?k50 ?a51 ?l51 ?c51 ?k51 ?a52 ?l52 ?c52 ?k52 ?a53 ?l53 ?c53 ?k53 ?a54 ?l54 ?c54 ?k54 ?z_len ?z_enumerate ?z_tuple ?z_all ?z_sum ?z_dict ?z_list ?z_range ?z_max ?z_int ?z_isinstance ?g1 ?g2 ?g3 ?pg ?hdL ?po ?saL ?mk ?kcL ?na_name ?na_words ?na_named ?na_posted ?na_many ?xT ?saT ?eC ?tC ?kcT ?icT ?sT ?tT ?nT ?rN ?gN ?vN
    (case aL => k_is)
    (case aT => k_is)
    (case aN => k_is)
    (case aB => k_is)
    (case a0 => k_is)
    (case l0 => k_is)
    (case c0 => k_is)
    (case k0 => k_is)
    (case a1 => k_is)
    (case l1 => k_is)
    (case c1 => k_is)
    (case k1 => k_is)
    (case a2 => k_is)
    (case l2 => k_is)
    (case c2 => k_is)
    (case k2 => k_is)
    (case a3 => k_is)
    (case l3 => k_is)
    (case c3 => k_is)
    (case k3 => k_is)
    (case a4 => k_is)
    (case l4 => k_is)
    (case c4 => k_is)
    (case k4 => k_is)
    (case a5 => k_is)
    (case l5 => k_is)
    (case c5 => k_is)
    (case k5 => k_is)
    (case a6 => k_is)
    (case l6 => k_is)
    (case c6 => k_is)
    (case k6 => k_is)
    (case a7 => k_is)
    (case l7 => k_is)
    (case c7 => k_is)
    (case k7 => k_is)
    (case a8 => k_is)
    (case l8 => k_is)
    (case c8 => k_is)
    (case k8 => k_is)
    (case a9 => k_is)
    (case l9 => k_is)
    (case c9 => k_is)
    (case k9 => k_is)
    (case a10 => k_is)
    (case l10 => k_is)
    (case c10 => k_is)
    (case k10 => k_is)
    (case a11 => k_is)
    (case i11 => k_is)
    (case l11 => k_is)
    (case c11 => k_is)
    (case k11 => k_is)
    (case a12 => k_is)
    (case i12 => k_is)
    (case l12 => k_is)
    (case c12 => k_is)
    (case k12 => k_is)
    (case a13 => k_is)
    (case i13 => k_is)
    (case l13 => k_is)
    (case c13 => k_is)
    (case k13 => k_is)
    (case a14 => k_is)
    (case i14 => k_is)
    (case l14 => k_is)
    (case c14 => k_is)
    (case k14 => k_is)
    (case a15 => k_is)
    (case i15 => k_is)
    (case l15 => k_is)
    (case c15 => k_is)
    (case k15 => k_is)
    (case a16 => k_is)
    (case i16 => k_is)
    (case l16 => k_is)
    (case c16 => k_is)
    (case k16 => k_is)
    (case a17 => k_is)
    (case i17 => k_is)
    (case l17 => k_is)
    (case c17 => k_is)
    (case k17 => k_is)
    (case a18 => k_is)
    (case i18 => k_is)
    (case l18 => k_is)
    (case c18 => k_is)
    (case k18 => k_is)
    (case a19 => k_is)
    (case l19 => k_is)
    (case c19 => k_is)
    (case k19 => k_is)
    (case a20 => k_is)
    (case l20 => k_is)
    (case c20 => k_is)
    (case k20 => k_is)
    (case a21 => k_is)
    (case l21 => k_is)
    (case c21 => k_is)
    (case k21 => k_is)
    (case a22 => k_is)
    (case l22 => k_is)
    (case c22 => k_is)
    (case k22 => k_is)
    (case a23 => k_is)
    (case l23 => k_is)
    (case c23 => k_is)
    (case k23 => k_is)
    (case a24 => k_is)
    (case l24 => k_is)
    (case c24 => k_is)
    (case k24 => k_is)
    (case a25 => k_is)
    (case l25 => k_is)
    (case c25 => k_is)
    (case k25 => k_is)
    (case a26 => k_is)
    (case l26 => k_is)
    (case c26 => k_is)
    (case k26 => k_is)
    (case a27 => k_is)
    (case l27 => k_is)
    (case c27 => k_is)
    (case k27 => k_is)
    (case a28 => k_is)
    (case l28 => k_is)
    (case c28 => k_is)
    (case k28 => k_is)
    (case a29 => k_is)
    (case l29 => k_is)
    (case c29 => k_is)
    (case k29 => k_is)
    (case a30 => k_is)
    (case l30 => k_is)
    (case c30 => k_is)
    (case k30 => k_is)
    (case a31 => k_is)
    (case l31 => k_is)
    (case c31 => k_is)
    (case k31 => k_is)
    (case a32 => k_is)
    (case l32 => k_is)
    (case c32 => k_is)
    (case k32 => k_is)
    (case a33 => k_is)
    (case l33 => k_is)
    (case c33 => k_is)
    (case k33 => k_is)
    (case a34 => k_is)
    (case l34 => k_is)
    (case c34 => k_is)
    (case k34 => k_is)
    (case a35 => k_is)
    (case l35 => k_is)
    (case c35 => k_is)
    (case k35 => k_is)
    (case a36 => k_is)
    (case l36 => k_is)
    (case c36 => k_is)
    (case k36 => k_is)
    (case a37 => k_is)
    (case l37 => k_is)
    (case c37 => k_is)
    (case k37 => k_is)
    (case a38 => k_is)
    (case l38 => k_is)
    (case c38 => k_is)
    (case k38 => k_is)
    (case a39 => k_is)
    (case l39 => k_is)
    (case c39 => k_is)
    (case k39 => k_is)
    (case a40 => k_is)
    (case l40 => k_is)
    (case c40 => k_is)
    (case k40 => k_is)
    (case a41 => k_is)
    (case l41 => k_is)
    (case c41 => k_is)
    (case k41 => k_is)
    (case a42 => k_is)
    (case l42 => k_is)
    (case c42 => k_is)
    (case k42 => k_is)
    (case a43 => k_is)
    (case l43 => k_is)
    (case c43 => k_is)
    (case k43 => k_is)
    (case a44 => k_is)
    (case l44 => k_is)
    (case c44 => k_is)
    (case k44 => k_is)
    (case a45 => k_is)
    (case l45 => k_is)
    (case c45 => k_is)
    (case k45 => k_is)
    (case a46 => k_is)
    (case l46 => k_is)
    (case c46 => k_is)
    (case k46 => k_is)
    (case a47 => k_is)
    (case l47 => k_is)
    (case c47 => k_is)
    (case k47 => k_is)
    (case a48 => k_is)
    (case l48 => k_is)
    (case c48 => k_is)
    (case k48 => k_is)
    (case a49 => k_is)
    (case l49 => k_is)
    (case c49 => k_is)
    (case k49 => k_is)
    (case a50 => k_is)
    (case l50 => k_is)
    (case c50 => k_is)
    (case k50 => k_is)
    (case a51 => k_is)
    (case l51 => k_is)
    (case c51 => k_is)
    (case k51 => k_is)
    (case a52 => k_is)
    (case l52 => k_is)
    (case c52 => k_is)
    (case k52 => k_is)
    (case a53 => k_is)
    (case l53 => k_is)
    (case c53 => k_is)
    (case k53 => k_is)
    (case a54 => k_is)
    (case l54 => k_is)
    (case c54 => k_is)
    (case k54 => k_is)
    (case z_len => k_is)
    (case z_enumerate => k_is)
    (case z_tuple => k_is)
    (case z_all => k_is)
    (case z_sum => k_is)
    (case z_dict => k_is)
    (case z_list => k_is)
    (case z_range => k_is)
    (case z_max => k_is)
    (case z_int => k_is)
    (case z_isinstance => k_is)
    (case g1 => k_is)
    (case g2 => k_is)
    (case g3 => k_is)
    (case pg => k_is)
    (case hdL => k_is)
    (case po => k_is)
    (case saL => k_is)
    (case mk => k_is)
    (case kcL => k_is)
    (case na_name => k_is)
    (case na_words => k_is)
    (case na_named => k_is)
    (case na_posted => k_is)
    (case na_many => k_is)
    (case xT => k_is)
    (case saT => k_is)
    (case eC => k_is)
    (case tC => k_is)
    (case kcT => k_is)
    (case icT => k_is)
    (case sT => first | rfl | k_is)
    (case tT => k_is)
    (case nT => k_is)
    (case rN => k_is)
    (case gN => k_is)
    (case vN => k_is)
