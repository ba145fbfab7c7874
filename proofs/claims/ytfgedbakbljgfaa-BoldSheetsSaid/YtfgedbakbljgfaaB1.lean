/- Part 1 of a proof: no statement of its own. -/
import Derived.Test.YtfgedbakbljgfaaB0
import Derived.ArgAppend
import Derived.Below
import Derived.BigQuiet
import Derived.Conc.CompanyDraw
import Derived.Conc.EventLaws
import Derived.Conc.SmallLaws
import Derived.Deep.AppendLies
import Derived.Deep.CutBlock
import Derived.Deep.DeepCutAuto
import Derived.Deep.Draws
import Derived.Deep.LoopGhost
import Derived.Deep.OwnRows
import Derived.Deep.QuietTactic
import Derived.Deep.RegionHeld3
import Derived.KernelRfl
import Derived.Laws.BitsLemmas
import Derived.Laws.BytesArg
import Derived.Laws.EntriesVeiled
import Derived.Laws.IdiomCopy
import Derived.Laws.MakeOwn
import Derived.Laws.OwnMore
import Derived.Laws.Rows
import Derived.Laws.Slices
import Derived.Lib.AppendStr
import Derived.Lib.ConvBytes
import Derived.Maps.AppendAt
import Derived.OrdersHeld
import Derived.OwnWalk
import Derived.RowKit
import Derived.RowKit3
import Derived.Tactics
import Derived.WalkKit
import Derived.WideLaws
set_option linter.unusedVariables false
set_option linter.unusedSimpArgs false
set_option maxRecDepth 20000
namespace Go.Ov
open Go.Conc
open Go.ConcN (sumTo upd sumTo_upd upd_ne upd_same sumTo_congr sumTo_upd_out le_sumTo sumTo_le)
section
variable {ph : Ph} {sz sL rL bs : Nat} {c : Nat → Cls} {cl : Bool}
theorem Ph.Proto.full (h : ph.Proto sz c cl sL rL bs) (hs : ∀ s, c 0 ≠ .mS s) : sz = ph.N0 + ph.n + 1 := by
 rcases h.main with ⟨s, h1, _⟩ | ⟨_, h1⟩
 ·exact absurd h1 (hs s)
 ·exact h1
theorem Ph.Proto.parkA (h : ph.Proto sz c cl sL rL bs) {j : Nat} (hj : j < ph.n) (hjs : ph.N0 + j < sz) (hc : c (ph.N0 + j) = .wA) (h0 : ∀ r got, c 0 ≠ .mP r got) : ph.Proto sz (upd c (ph.N0 + j) .wP) cl sL rL bs := by
 have := ph.pos
 have e0 : upd c (ph.N0 + j) .wP 0 = c 0 := upd_ne _ _ (by omega)
 have en : upd c (ph.N0 + j) .wP (ph.N0 + ph.n) = c (ph.N0 + ph.n) := upd_ne _ _ (by omega)
 have eu : ∀ i, undone (upd c (ph.N0 + j) .wP (ph.N0 + i)) = undone (c (ph.N0 + i)) := fun i => by
  by_cases hi : ph.N0 + i = ph.N0 + j
  ·rw [hi, upd_same, hc]; rfl
  ·rw [upd_ne _ _ hi]
 have el : ∀ i, lvn (upd c (ph.N0 + j) .wP (ph.N0 + i)) = lvn (c (ph.N0 + i)) := fun i => by
  by_cases hi : ph.N0 + i = ph.N0 + j
  ·rw [hi, upd_same, hc]; rfl
  ·rw [upd_ne _ _ hi]
 refine ⟨by rw [e0]; exact h.main, fun i h1 h2 => by rw [upd_ne _ _ (by omega)]; exact h.old i h1 h2, fun i hi => ?_, fun i hi hz => ?_, by rw [en]; exact h.clos, fun hz => by rw [en]; exact h.unc hz,
  fun r got hg => ?_, fun s hs i hi => ?_, h.bsz, ?_, fun r got hg => ?_⟩
 ·by_cases hij : ph.N0 + i = ph.N0 + j
  ·rw [hij, upd_same]; exact .inr (.inl rfl)
  ·rw [upd_ne _ _ hij]; exact h.work i hi
 ·rw [upd_ne _ _ (by omega)]; exact h.uns i hi hz
 ·rw [e0] at hg; simp only [eu]; exact h.got r got hg
 ·rw [e0] at hs; rw [eu]; exact h.start s hs i hi
 ·simp only [el]; exact h.cnt
 ·rw [e0] at hg; exact absurd hg (h0 r got)
theorem Ph.Proto.parkC (h : ph.Proto sz c cl sL rL bs) {r : Nat} (hz : ph.N0 + ph.n < sz) (hc : c (ph.N0 + ph.n) = .cR (r + 1)) (hb : bs = 0) : ph.Proto sz (upd c (ph.N0 + ph.n) (.cP r)) cl sL rL bs := by
 have := ph.pos
 have e0 : upd c (ph.N0 + ph.n) (.cP r) 0 = c 0 := upd_ne _ _ (by omega)
 have ej : ∀ i, i < ph.n → upd c (ph.N0 + ph.n) (.cP r) (ph.N0 + i) = c (ph.N0 + i) := fun i hi => upd_ne _ _ (by omega)
 refine ⟨by rw [e0]; exact h.main, fun i h1 h2 => by rw [upd_ne _ _ (by omega)]; exact h.old i h1 h2, fun i hi => by rw [ej i hi]; exact h.work i hi, fun i hi hz' => by rw [ej i hi]; exact h.uns i hi hz', ?_, fun hz' => absurd hz' (by omega),
  fun r' got hg => ?_, fun s hs i hi => by rw [ej i hi]; rw [e0] at hs; exact h.start s hs i hi, h.bsz, ?_, fun r' got hg i hi => by rw [ej i hi]; rw [e0] at hg; exact h.park r' got hg i hi⟩
 ·rw [upd_same]
  rcases h.clos with ⟨r', h1, h2, h3⟩ | ⟨r', h1, _⟩ | ⟨h1, _⟩
  ·rw [hc] at h1
   cases h1
   exact .inr (.inl ⟨r, rfl, by omega, hb, h3⟩)
  ·rw [hc] at h1; cases h1
  ·rw [hc] at h1; cases h1
 ·rw [e0] at hg
  rw [sumTo_congr fun i hi => by rw [ej i hi]]
  refine ⟨(h.got r' got hg).1, fun i hi => by rw [ej i hi]; exact (h.got r' got hg).2 i hi⟩
 ·rw [sumTo_congr fun i hi => by rw [ej i hi]]; exact h.cnt
theorem Ph.Proto.parkM (h : ph.Proto sz c cl sL rL bs) {r : Nat} {got : List Nat} (hc : c 0 = .mR r got) (hcl : cl = false) (hw : ∀ j, j < ph.n → c (ph.N0 + j) ≠ .wP) : ph.Proto sz (upd c 0 (.mP r got)) cl sL rL bs := by
 have := ph.pos
 have en : ∀ i, upd c 0 (.mP r got) (ph.N0 + i) = c (ph.N0 + i) := fun i => upd_ne _ _ (by omega)
 refine ⟨?_, fun i h1 h2 => by rw [upd_ne _ _ (by omega)]; exact h.old i h1 h2, fun i hi => by rw [en]; exact h.work i hi, fun i hi hz => by rw [en]; exact h.uns i hi hz, by rw [en]; exact h.clos, fun hz => by rw [en]; exact h.unc hz,
  fun r' got' hg => ?_, fun s hs => ?_, h.bsz, by simp only [en]; exact h.cnt, fun r' got' hg i hi => by rw [en]; exact hw i hi⟩
 ·refine .inr ⟨.inr ⟨⟨r, got, upd_same _ _ _⟩, hcl⟩, h.full fun s hs => by rw [hc] at hs; cases hs⟩
 ·simp only [en]
  rw [upd_same] at hg
  rcases hg with hg | hg
  ·cases hg
  ·cases hg; exact h.got r got (.inl hc)
 ·rw [upd_same] at hs; cases hs
theorem Ph.Proto.meetF (h : ph.Proto sz c cl sL rL bs) {r j : Nat} {got : List Nat} (h0 : c 0 = .mR r got ∨ c 0 = .mP r got) (hj : j < ph.n) (hc : c (ph.N0 + j) = .wA ∨ c (ph.N0 + j) = .wP) :
  ∃ r', r = r' + 1 ∧ j ∉ got ∧ ph.Proto sz (upd (upd c (ph.N0 + j) .wB) 0 (.mR r' (j :: got))) cl sL rL bs := by
 have hpos := ph.pos
 obtain ⟨hr, hg⟩ := h.got r got h0
 have hu : undone (c (ph.N0 + j)) = 1 := by rcases hc with e | e <;> rw [e] <;> rfl
 have hl : lvn (c (ph.N0 + j)) = 0 := by rcases hc with e | e <;> rw [e] <;> rfl
 have hnot : j ∉ got := fun hx => by rw [(hg j hj).1 hx] at hu; cases hu
 have hge : 1 ≤ r := by
  rw [hr]
  have : undone (c (ph.N0 + j)) ≤ _ := le_sumTo (f := fun j => undone (c (ph.N0 + j))) hj
  omega
 obtain ⟨r', rfl⟩ : ∃ r', r = r' + 1 := ⟨r - 1, by omega⟩
 have hfull : sz = ph.N0 + ph.n + 1 := h.full fun s hs => by rcases h0 with e | e <;> rw [hs] at e <;> cases e
 have en : ∀ i, upd (upd c (ph.N0 + j) .wB) 0 (.mR r' (j :: got)) (ph.N0 + i) = upd c (ph.N0 + j) .wB (ph.N0 + i) := fun i => upd_ne _ _ (by omega)
 have st := sum_turn (c := c) (N0 := ph.N0) (x := .wB) undone hj
 have sl := sum_turn (c := c) (N0 := ph.N0) (x := .wB) lvn hj
 refine ⟨r', rfl, hnot, ?_, fun i h1 h2 => by rw [upd_ne _ _ (by omega), upd_ne _ _ (by omega)]; exact h.old i h1 h2, fun i hi => ?_, fun i hi hz => absurd hz (by omega), by rw [en, upd_ne _ _ (by omega)]; exact h.clos, fun hz => absurd hz (by omega),
  fun r2 got2 hg2 => ?_, fun s hs => ?_, h.bsz, ?_, fun r2 got2 hg2 => ?_⟩
 ·exact .inr ⟨.inl ⟨r', j :: got, upd_same _ _ _⟩, hfull⟩
 ·rw [en]
  by_cases hij : ph.N0 + i = ph.N0 + j
  ·rw [hij, upd_same]; exact .inr (.inr (.inl rfl))
  ·rw [upd_ne _ _ hij]; exact h.work i hi
 ·rw [upd_same] at hg2
  rcases hg2 with hg2 | hg2 <;> cases hg2
  simp only [en]
  have hw : undone Cls.wB = 0 := rfl
  refine ⟨by omega, fun i hi => ?_⟩
  by_cases hij : i = j
  ·subst hij; rw [upd_same]; simp [hw]
  ·rw [upd_ne _ _ (by omega), List.mem_cons]
   exact ⟨fun x => (hg i hi).1 (x.resolve_left hij), fun x => .inr ((hg i hi).2 x)⟩
 ·rw [upd_same] at hs; cases hs
 ·simp only [en]
  have hw : lvn Cls.wB = 0 := rfl
  have := h.cnt
  omega
 ·rw [upd_same] at hg2; cases hg2
theorem Ph.Proto.lt_n (h : ph.Proto sz c cl sL rL bs) {j : Nat} (hj : j < ph.n) (hc : c (ph.N0 + j) ≠ .lv) : sL < ph.n := by
 rw [h.cnt]
 refine sumTo_lt' (f := fun j => lvn (c (ph.N0 + j))) (fun j _ => lvn_le _) hj ?_
 have := lvn_le (c (ph.N0 + j))
 rcases Nat.lt_or_ge (lvn (c (ph.N0 + j))) 1 with h1 | h1
 ·show lvn _ = 0; omega
 ·exact absurd (lvn_one (by omega)) hc
theorem Ph.Proto.said (h : ph.Proto sz c cl sL rL bs) {j : Nat} (hj : j < ph.n) (hjs : ph.N0 + j < sz) (hc : c (ph.N0 + j) = .wB) {bs' : Nat} {x : Cls} {rL' : Nat} (hb : bs' + rL' = sL + 1)
  (hx : (x = c (ph.N0 + ph.n) ∧ rL' = rL ∧ ∀ r, x ≠ .cP r) ∨ ∃ r, c (ph.N0 + ph.n) = .cP r ∧ x = .cR r ∧ rL' = rL + 1) : ph.Proto sz (upd (upd c (ph.N0 + j) .lv) (ph.N0 + ph.n) x) cl (sL + 1) rL' bs' := by
 have hpos := ph.pos
 have hnc : cl = false := by
  cases hcl : cl with
  | false => rfl
  | true => have := (h.closed hcl).2.2 j hj; rw [hc] at this; cases this
 have ej : ∀ i, i < ph.n → upd (upd c (ph.N0 + j) .lv) (ph.N0 + ph.n) x (ph.N0 + i) = upd c (ph.N0 + j) .lv (ph.N0 + i) := fun i hi => upd_ne _ _ (by omega)
 have e0 : upd (upd c (ph.N0 + j) .lv) (ph.N0 + ph.n) x 0 = c 0 := by rw [upd_ne _ _ (by omega), upd_ne _ _ (by omega)]
 have st := sum_turn (c := c) (N0 := ph.N0) (x := .lv) undone hj
 have sl := sum_turn (c := c) (N0 := ph.N0) (x := .lv) lvn hj
 have eu : ∀ i, i < ph.n → undone (upd (upd c (ph.N0 + j) .lv) (ph.N0 + ph.n) x (ph.N0 + i)) = undone (c (ph.N0 + i)) := fun i hi => by
  rw [ej i hi]
  by_cases hij : ph.N0 + i = ph.N0 + j
  ·rw [hij, upd_same, hc]; rfl
  ·rw [upd_ne _ _ hij]
 refine ⟨by rw [e0]; exact h.main, fun i h1 h2 => by rw [upd_ne _ _ (by omega), upd_ne _ _ (by omega)]; exact h.old i h1 h2, fun i hi => ?_, fun i hi hz => ?_, ?_, fun hz => ?_,
  fun r got hg => ?_, fun s hs i hi => by rw [eu i hi]; rw [e0] at hs; exact h.start s hs i hi, hb, ?_, fun r got hg i hi => ?_⟩
 ·rw [ej i hi]
  by_cases hij : ph.N0 + i = ph.N0 + j
  ·rw [hij, upd_same]; exact .inr (.inr (.inr rfl))
  ·rw [upd_ne _ _ hij]; exact h.work i hi
 ·rw [ej i hi, upd_ne _ _ (by omega)]; exact h.uns i hi hz
 ·rw [upd_same]
  rcases hx with ⟨rfl, rfl, hx⟩ | ⟨r, hr, rfl, rfl⟩
  ·rcases h.clos with x | ⟨r, h1, _⟩ | x
   ·exact .inl x
   ·exact absurd h1 (hx r)
   ·exact .inr (.inr x)
  ·rcases h.clos with ⟨r', h1, _⟩ | ⟨r', h1, h2, h3, h4⟩ | ⟨h1, _⟩
   ·rw [hr] at h1; cases h1
   ·rw [hr] at h1; cases h1
    exact .inl ⟨r, rfl, by omega, h4⟩
   ·rw [hr] at h1; cases h1
 ·rw [upd_same]
  have hu := h.unc hz
  rcases hx with ⟨rfl, _⟩ | ⟨r, hr, _⟩
  ·exact hu
  ·rw [hr] at hu; cases hu
 ·rw [e0] at hg
  rw [sumTo_congr fun i hi => eu i hi]
  exact ⟨(h.got r got hg).1, fun i hi => by rw [eu i hi]; exact (h.got r got hg).2 i hi⟩
 ·rw [sumTo_congr fun i hi => by rw [ej i hi]]
  rw [hc] at sl
  have h1 : lvn Cls.wB = 0 := rfl
  have h2 : lvn Cls.lv = 1 := rfl
  have := h.cnt
  omega
 ·rw [e0] at hg
  rw [ej i hi]
  by_cases hij : ph.N0 + i = ph.N0 + j
  ·rw [hij, upd_same]; simp
  ·rw [upd_ne _ _ hij]; exact h.park r got hg i hi
theorem Ph.Proto.took (h : ph.Proto sz c cl sL rL (bs + 1)) {r : Nat} (hz : ph.N0 + ph.n < sz) (hc : c (ph.N0 + ph.n) = .cR (r + 1)) : ph.Proto sz (upd c (ph.N0 + ph.n) (.cR r)) cl sL (rL + 1) bs := by
 have := ph.pos
 have e0 : upd c (ph.N0 + ph.n) (.cR r) 0 = c 0 := upd_ne _ _ (by omega)
 have ej : ∀ i, i < ph.n → upd c (ph.N0 + ph.n) (.cR r) (ph.N0 + i) = c (ph.N0 + i) := fun i hi => upd_ne _ _ (by omega)
 refine ⟨by rw [e0]; exact h.main, fun i h1 h2 => by rw [upd_ne _ _ (by omega)]; exact h.old i h1 h2, fun i hi => by rw [ej i hi]; exact h.work i hi, fun i hi hz' => by rw [ej i hi]; exact h.uns i hi hz', ?_, fun hz' => absurd hz' (by omega),
  fun r' got hg => ?_, fun s hs i hi => by rw [ej i hi]; rw [e0] at hs; exact h.start s hs i hi, by have := h.bsz; omega, ?_, fun r' got hg i hi => by rw [ej i hi]; rw [e0] at hg; exact h.park r' got hg i hi⟩
 ·rw [upd_same]
  rcases h.clos with ⟨r', h1, h2, h3⟩ | ⟨r', h1, _⟩ | ⟨h1, _⟩
  ·rw [hc] at h1
   cases h1
   exact .inl ⟨r, rfl, by omega, h3⟩
  ·rw [hc] at h1; cases h1
  ·rw [hc] at h1; cases h1
 ·rw [e0] at hg
  rw [sumTo_congr fun i hi => by rw [ej i hi]]
  refine ⟨(h.got r' got hg).1, fun i hi => by rw [ej i hi]; exact (h.got r' got hg).2 i hi⟩
 ·rw [sumTo_congr fun i hi => by rw [ej i hi]]; exact h.cnt
def wake : Cls → Cls
 | .mP r got => .mR r got
 | x => x
theorem Ph.Proto.close (h : ph.Proto sz c cl sL rL bs) (hz : ph.N0 + ph.n < sz) (hc : c (ph.N0 + ph.n) = .cR 0) : ph.Proto sz (upd (upd c (ph.N0 + ph.n) .lv) 0 (wake (c 0))) true sL rL bs := by
 have := ph.pos
 have ej : ∀ i, i < ph.n → upd (upd c (ph.N0 + ph.n) .lv) 0 (wake (c 0)) (ph.N0 + i) = c (ph.N0 + i) := fun i hi => by rw [upd_ne _ _ (by omega), upd_ne _ _ (by omega)]
 have hm : (∃ r got, wake (c 0) = .mR r got ∧ (c 0 = .mR r got ∨ c 0 = .mP r got)) ∧ sz = ph.N0 + ph.n + 1 := by
  rcases h.main with ⟨s, _, _, h2⟩ | ⟨⟨r, got, h1⟩ | ⟨⟨r, got, h1⟩, _⟩, h2⟩
  ·omega
  ·exact ⟨⟨r, got, by rw [h1]; rfl, .inl h1⟩, h2⟩
  ·exact ⟨⟨r, got, by rw [h1]; rfl, .inr h1⟩, h2⟩
 obtain ⟨⟨r, got, hw, hg0⟩, hfull⟩ := hm
 rw [hw] at ej ⊢
 refine ⟨.inr ⟨.inl ⟨r, got, upd_same _ _ _⟩, hfull⟩, fun i h1 h2 => by rw [upd_ne _ _ (by omega), upd_ne _ _ (by omega)]; exact h.old i h1 h2, fun i hi => by rw [ej i hi]; exact h.work i hi, fun i hi hz' => by rw [ej i hi]; exact h.uns i hi hz', ?_, fun hz' => absurd hz' (by omega),
  fun r' got' hg => ?_, fun s hs => ?_, h.bsz, ?_, fun r' got' hg => ?_⟩
 ·rw [upd_ne _ _ (by omega), upd_same]
  refine .inr (.inr ⟨rfl, ?_, rfl⟩)
  rcases h.clos with ⟨r', h1, h2, h3⟩ | ⟨r', h1, _⟩ | ⟨h1, _⟩
  ·rw [hc] at h1; cases h1; omega
  ·rw [hc] at h1; cases h1
  ·rw [hc] at h1; cases h1
 ·rw [upd_same] at hg
  rcases hg with hg | hg <;> cases hg
  rw [sumTo_congr fun i hi => by rw [ej i hi]]
  refine ⟨(h.got r got hg0).1, fun i hi => by rw [ej i hi]; exact (h.got r got hg0).2 i hi⟩
 ·rw [upd_same] at hs; cases hs
 ·rw [sumTo_congr fun i hi => by rw [ej i hi]]; exact h.cnt
 ·rw [upd_same] at hg; cases hg
theorem Ph.Proto.spawnW (h : ph.Proto sz c cl sL rL bs) {s : Nat} (hc : c 0 = .mS (s + 1)) : sz = ph.N0 + (ph.n - (s + 1)) ∧ s + 1 ≤ ph.n ∧ ph.Proto (sz + 1) (upd c 0 (.mS s)) cl sL rL bs := by
 have := ph.pos
 have hm : s + 1 ≤ ph.n ∧ sz = ph.N0 + (ph.n - (s + 1)) := by
  rcases h.main with ⟨s', h1, h2, h3⟩ | ⟨⟨r, got, h1⟩ | ⟨⟨r, got, h1⟩, _⟩, _⟩
  ·rw [hc] at h1; cases h1; exact ⟨h2, h3⟩
  ·rw [hc] at h1; cases h1
  ·rw [hc] at h1; cases h1
 have en : ∀ i, upd c 0 (.mS s) (ph.N0 + i) = c (ph.N0 + i) := fun i => upd_ne _ _ (by omega)
 refine ⟨hm.2, hm.1, .inl ⟨s, upd_same _ _ _, by omega, by omega⟩, fun i h1 h2 => by rw [upd_ne _ _ (by omega)]; exact h.old i h1 h2, fun i hi => by rw [en]; exact h.work i hi, fun i hi hz => by rw [en]; exact h.uns i hi (by omega), by rw [en]; exact h.clos, fun hz => by rw [en]; exact h.unc (by omega),
  fun r got hg => ?_, fun s' hs i hi => by rw [en]; exact h.start _ hc i hi, h.bsz, by simp only [en]; exact h.cnt, fun r got hg => ?_⟩
 ·rw [upd_same] at hg; rcases hg with hg | hg <;> cases hg
 ·rw [upd_same] at hg; cases hg
theorem Ph.Proto.spawnC (h : ph.Proto sz c cl sL rL bs) (hc : c 0 = .mS 0) : sz = ph.N0 + ph.n ∧ ph.Proto (sz + 1) (upd c 0 (.mR ph.n [])) cl sL rL bs := by
 have := ph.pos
 have hm : sz = ph.N0 + ph.n := by
  rcases h.main with ⟨s', h1, h2, h3⟩ | ⟨⟨r, got, h1⟩ | ⟨⟨r, got, h1⟩, _⟩, _⟩
  ·rw [hc] at h1; cases h1; omega
  ·rw [hc] at h1; cases h1
  ·rw [hc] at h1; cases h1
 have en : ∀ i, upd c 0 (.mR ph.n []) (ph.N0 + i) = c (ph.N0 + i) := fun i => upd_ne _ _ (by omega)
 refine ⟨hm, .inr ⟨.inl ⟨ph.n, [], upd_same _ _ _⟩, by omega⟩, fun i h1 h2 => by rw [upd_ne _ _ (by omega)]; exact h.old i h1 h2, fun i hi => by rw [en]; exact h.work i hi, fun i hi hz => by omega, by rw [en]; exact h.clos, fun hz => by omega,
  fun r got hg => ?_, fun s' hs i hi => by rw [en]; exact h.start _ hc i hi, h.bsz, by simp only [en]; exact h.cnt, fun r got hg => ?_⟩
 ·rw [upd_same] at hg
  rcases hg with hg | hg <;> cases hg
  simp only [en]
  refine ⟨(sumTo_all fun j hj => h.start 0 hc j hj).symm, fun j hj => ?_⟩
  rw [h.start 0 hc j hj]; simp
 ·rw [upd_same] at hg; cases hg
end
def Mute (u : Trace) : Prop := ∀ op ∈ u, op.act.touch? = none ∧ op.act ≠ .mark .disable ∧ op.act ≠ .mark .enable
structure Ph.Near (ph : Ph) (w w' : World) : Prop where
 os : w'.os = w.os
 output : w'.output = w.output
 size : w'.heap.size = w.heap.size
 heap : ∀ b, b ≠ ph.F → b ≠ ph.L → w'.heap[b]? = w.heap[b]?
theorem near_setF {ph : Ph} {w : World} (d cap : Nat) (buf : Array Value) (cl : Bool) (s r : Nat) : ph.Near w ((w.at d).setChan ph.F cap buf cl s r false) :=
 ⟨rfl, rfl, by simp [World.setChan, World.at], fun b h1 _ => by simp [World.setChan, World.at, Array.getElem?_setIfInBounds, Ne.symm h1]⟩
theorem near_setL {ph : Ph} {w : World} (d cap : Nat) (buf : Array Value) (cl : Bool) (s r : Nat) : ph.Near w ((w.at d).setChan ph.L cap buf cl s r false) :=
 ⟨rfl, rfl, by simp [World.setChan, World.at], fun b _ h2 => by simp [World.setChan, World.at, Array.getElem?_setIfInBounds, Ne.symm h2]⟩
theorem setChan_get {w : World} {x b cap s r : Nat} {buf : Array Value} {cl tm : Bool} : (w.setChan x cap buf cl s r tm).heap[b]? = if x = b then (if x < w.heap.size then some (.chan cap buf cl s r tm) else none) else w.heap[b]? := by
 unfold World.setChan
 show (w.heap.setIfInBounds x _)[b]? = _
 rw [Array.getElem?_setIfInBounds]
section
variable {ph : Ph} {w0 : World} {M0 : Mem} {gs gs' : Array Goroutine} {w w' : World} {t u : Trace} {c : Nat → Cls} {k : Nat → Nat} {mem : Nat → Mem} {cl : Bool} {sF sL rL : Nat} {buf : Array Value}
theorem act_cls {sz : Nat} {c c' : Nat → Cls} (h : ∀ i, 0 < i → (c' i = .lv ↔ c i = .lv)) : ph.Act sz c' = ph.Act sz c := by
 funext i
 unfold Ph.Act
 rcases Nat.eq_zero_or_pos i with rfl | hi
 ·simp
 ·simp [h i hi]
theorem Ph.Inv.meetF (h : ph.Inv w0 M0 gs w t c k mem cl sF sL rL buf) {j r : Nat} {got : List Nat} {g1 g2 : Goroutine} (hj : j < ph.n) (hc : c (ph.N0 + j) = .wA ∨ c (ph.N0 + j) = .wP) (h0 : c 0 = .mR r got ∨ c 0 = .mP r got)
  (ha : ph.AStop j (mem (ph.N0 + j)) g1) (hm : ph.MStop r got (mem 0) g2) (hsz : gs'.size = gs.size) (e1 : gs'[ph.N0 + j]? = some (fin ph.P g1 (ph.sendF j) .send undef false)) (e2 : gs'[0]? = some (fin ph.P g2 ph.recvF (.recv true) (ph.val j) true))
  (e3 : ∀ i, i ≠ 0 → i ≠ ph.N0 + j → gs'[i]? = gs[i]?) (hw : ph.Near w w') (hF : w'.heap[ph.F]? = some (.chan 0 #[] cl (sF + 1) (sF + 1) false)) (hL : w'.heap[ph.L]? = w.heap[ph.L]?) (hu : Mute u) :
  ∃ r' k1 k2, r = r' + 1 ∧ ph.Inv w0 M0 gs' w' (t ++ u) (upd (upd c (ph.N0 + j) .wB) 0 (.mR r' (j :: got))) (upd (upd k (ph.N0 + j) k1) 0 k2) mem cl (sF + 1) sL rL buf := by
 have hpos := ph.pos
 obtain ⟨r', rfl, hnot, hproto⟩ := h.proto.meetF h0 hj hc
 obtain ⟨_, k1, hk1⟩ := ha
 obtain ⟨_, hm2⟩ := hm
 obtain ⟨k2, hk2⟩ := hm2 j hj hnot
 have hclv : c (ph.N0 + j) ≠ .lv := by rcases hc with e | e <;> rw [e] <;> simp
 have hlvs : ∀ i, 0 < i → (upd (upd c (ph.N0 + j) .wB) 0 (.mR r' (j :: got)) i = .lv ↔ c i = .lv) := fun i hi => by
  rw [upd_ne _ _ (by omega)]
  by_cases hij : i = ph.N0 + j
  ·subst hij; rw [upd_same]; simp [hclv]
  ·rw [upd_ne _ _ hij]
 refine ⟨r', k1, k2, rfl, ?_, fun i g hg => ?_, fun i hi => ?_, by rw [hsz]; exact hproto, ⟨hF, hL.trans h.chan.L, h.chan.buf⟩, ?_, h.hp.comm hw.os hw.output hw.size hw.heap⟩
 ·rw [hsz, act_cls hlvs]
  exact h.uni.comm hw.size hw.heap hu
 ·by_cases hi0 : i = 0
  ·subst hi0
   rw [e2] at hg
   obtain rfl := Option.some.inj hg
   rw [upd_same, upd_same]
   exact hk2
  ·rw [upd_ne _ _ hi0, upd_ne _ _ hi0]
   by_cases hij : i = ph.N0 + j
   ·subst hij
    rw [e1] at hg
    obtain rfl := Option.some.inj hg
    rw [upd_same, upd_same]
    exact hk1
   ·rw [e3 i hi0 hij] at hg
    rw [upd_ne _ _ hij, upd_ne _ _ hij]
    exact role_trace (h.ok i g hg) fun _ => Deaf_keep' t i u fun op hop => (hu op hop).2
 ·rw [Deaf_keep' t i u fun op hop => (hu op hop).2]
  exact h.above i (by omega)
 ·rw [hsz]
  exact (h.tr.quiet fun op hop => (hu op hop).1).cls (Nat.le_refl _) (Nat.le_refl _) (fun i hi hl => (hlvs _ (by omega)).1 hl) .inl
theorem Ph.Inv.said (h : ph.Inv w0 M0 gs w t c k mem cl sF sL rL buf) {j : Nat} {g1 : Goroutine} {x : Cls} {rL' : Nat} {buf' : Array Value} {kc : Nat} (hj : j < ph.n) (hjs : ph.N0 + j < gs.size) (hc : c (ph.N0 + j) = .wB)
  (hb : ph.BStop (mem (ph.N0 + j)) g1) (hsz : gs'.size = gs.size) (e1 : gs'[ph.N0 + j]? = some (fin ph.P g1 ph.sendL .send undef false))
  (e2 : ∀ g, gs'[ph.N0 + ph.n]? = some g → ph.RoleOk (t ++ u) (ph.N0 + ph.n) x kc (mem (ph.N0 + ph.n)) g) (e3 : ∀ i, i ≠ ph.N0 + ph.n → i ≠ ph.N0 + j → gs'[i]? = gs[i]?)
  (hw : ph.Near w w') (hF : w'.heap[ph.F]? = w.heap[ph.F]?) (hL : w'.heap[ph.L]? = some (.chan ph.n buf' false (sL + 1) rL' false)) (hu : Mute u)
  (hbuf : ∀ v ∈ buf', v = .bool true) (hproto : ph.Proto gs.size (upd (upd c (ph.N0 + j) .lv) (ph.N0 + ph.n) x) cl (sL + 1) rL' buf'.size) (hxl : x = .lv → c (ph.N0 + ph.n) = .lv) (hxl' : c (ph.N0 + ph.n) = .lv → x = .lv)
  (hsend : ∃ (p : Nat) (op : MemOp), (t ++ u)[p]? = some op ∧ op.g = ph.N0 + j ∧ t.size ≤ p ∧ op.act = .send ph.L sL)
  (hrecv : ∀ i, i < rL' → i < rL ∨ ∃ (q : Nat) (z : MemOp), (t ++ u)[q]? = some z ∧ z.g = ph.N0 + ph.n ∧ z.act = .recvDone ph.L i ∧ (t ++ u).heard q) :
  ∃ k1, ph.Inv w0 M0 gs' w' (t ++ u) (upd (upd c (ph.N0 + j) .lv) (ph.N0 + ph.n) x) (upd (upd k (ph.N0 + j) k1) (ph.N0 + ph.n) kc) (upd mem (ph.N0 + j) []) cl sF (sL + 1) rL' buf' := by
 have hpos := ph.pos
 obtain ⟨_, k1, hk1⟩ := hb
 have hact : ph.Act gs.size c (ph.N0 + j) := .inr ⟨by omega, hjs, by rw [hc]; simp⟩
 have hdeaf : Deaf (t ++ u) (ph.N0 + j) = 0 := by rw [Deaf_keep' t _ u fun op hop => (hu op hop).2]; exact h.uni.deaf _ hact
 have hlv : ∀ i, upd (upd c (ph.N0 + j) .lv) (ph.N0 + ph.n) x i = .lv → i = ph.N0 + j ∨ c i = .lv := fun i hi => by
  by_cases hin : i = ph.N0 + ph.n
  ·subst hin; rw [upd_same] at hi; exact .inr (hxl hi)
  ·rw [upd_ne _ _ hin] at hi
   by_cases hij : i = ph.N0 + j
   ·exact .inl hij
   ·rw [upd_ne _ _ hij] at hi; exact .inr hi
 have hlv' : ∀ i, c i = .lv ∨ i = ph.N0 + j → upd (upd c (ph.N0 + j) .lv) (ph.N0 + ph.n) x i = .lv := fun i hi => by
  by_cases hin : i = ph.N0 + ph.n
  ·subst hin
   rw [upd_same]
   rcases hi with hi | hi
   ·exact hxl' hi
   ·omega
  ·rw [upd_ne _ _ hin]
   by_cases hij : i = ph.N0 + j
   ·rw [hij, upd_same]
   ·rw [upd_ne _ _ hij]; exact hi.resolve_right hij
 refine ⟨k1, ?_, fun i g hg => ?_, fun i hi => ?_, by rw [hsz]; exact hproto, ⟨hF.trans h.chan.F, hL, hbuf⟩, ?_, ?_⟩
 ·rw [hsz]
  have h1 := (h.uni.comm hw.size hw.heap hu).drop (ph.N0 + j)
  refine h1.fewer (fun i hi => hi.imp id fun ⟨a, b, e⟩ => ⟨a, b, fun e' => e (hlv' i (.inl e'))⟩) fun i hi => ?_
  by_cases hij : i = ph.N0 + j
  ·rw [hij, upd_same]
  ·refine h1.idle i fun ha => hi (ha.imp id fun ⟨a, b, e⟩ => ⟨a, b, fun e' => ?_⟩)
   rcases hlv i e' with e'' | e''
   ·exact hij e''
   ·exact e e''
 ·by_cases hin : i = ph.N0 + ph.n
  ·subst hin
   rw [upd_same, upd_same, upd_ne _ _ (by omega)]
   exact e2 g hg
  ·rw [upd_ne _ _ hin, upd_ne _ _ hin]
   by_cases hij : i = ph.N0 + j
   ·subst hij
    rw [e1] at hg
    obtain rfl := Option.some.inj hg
    rw [upd_same, upd_same, upd_same]
    show QuitsD ph.P k1 _ _
    rw [hdeaf]
    exact hk1
   ·rw [e3 i hin hij] at hg
    rw [upd_ne _ _ hij, upd_ne _ _ hij, upd_ne _ _ hij]
    exact role_trace (h.ok i g hg) fun _ => Deaf_keep' t i u fun op hop => (hu op hop).2
 ·rw [Deaf_keep' t i u fun op hop => (hu op hop).2]
  exact h.above i (by omega)
 ·rw [hsz]
  have ht := h.tr.quiet fun op hop => (hu op hop).1
  refine ⟨ht.seen, fun i hi hl => ?_, fun i hi => ?_, ht.tX, ht.tF0, ht.tF1⟩
  ·rcases hlv _ hl with e | e
   ·obtain rfl : i = j := by omega
    obtain ⟨p, op, h1, h2, h3, h4⟩ := hsend
    refine ⟨p, sL, op, h1, h4, Nat.lt_succ_self _, ⟨ph.N0 + i, by simp [Trace.g?, h1, h2], ?_⟩, fun y a ha hg => ?_⟩
    ·
     have key : ∀ p, p ≤ (t ++ u).size → t.size ≤ p → (t ++ u).deaf (ph.N0 + i) p = Deaf t (ph.N0 + i) := by
      intro p
      induction p with
      | zero =>
       intro h5 h6
       have : t.size = 0 := by omega
       unfold Deaf; rw [this]; rfl
      | succ p ih =>
       intro h5 h6
       rcases Nat.lt_or_ge p t.size with h7 | h7
       ·have : p + 1 = t.size := by omega
        rw [this, deaf_old (Nat.le_refl _)]; rfl
       ·have hp : ∃ y, (t ++ u)[p]? = some y := ⟨(t ++ u)[p], Array.getElem?_eq_getElem (by omega)⟩
        obtain ⟨y, hy⟩ := hp
        rw [deaf_succ hy, ih (by omega) h7]
        rcases getElem?_append_cases hy with ⟨h8, _⟩ | ⟨_, h8⟩
        ·omega
        ·obtain ⟨_, n1, n2⟩ := hu y h8
         unfold deafStep
         split
         ·rename_i e; exact absurd e n1
         ·rename_i e; exact absurd e n2
         ·rfl
     rw [key p (Nat.le_of_lt (lt_size_of_getElem? h1)) h3]
     exact h.uni.deaf _ hact
    ·have h5 := quiet_touch (fun op hop => (hu op hop).1) ha
     obtain ⟨z, hz, _⟩ := touch_of h5
     have hzg : z.g = ph.N0 + i := by
      have := hg
      rw [g?_old (lt_size_of_getElem? hz)] at this
      simpa [Trace.g?, hz] using this
     exact .inr (.inr (hb_po (Nat.lt_of_lt_of_le (lt_size_of_getElem? hz) h3) (pers hz) h1 (hzg.trans h2.symm)))
   ·obtain ⟨p, k', op, h1, h2, h3, h4⟩ := ht.tW i hi e
    exact ⟨p, k', op, h1, h2, Nat.lt_succ_of_lt h3, h4⟩
  ·rcases hrecv i hi with h1 | h1
   ·exact ht.tC i h1
   ·exact h1
 ·refine (h.hp.comm hw.os hw.output hw.size hw.heap).mems fun i b hb => ?_
  by_cases hij : i = ph.N0 + j
  ·rw [hij, upd_same] at hb; obtain ⟨o, ho⟩ := hb; simp at ho
  ·rw [upd_ne _ _ hij] at hb; exact ⟨i, hb⟩
end
theorem heard_new {t u : Trace} {g p : Nat} {op : MemOp} (hp : (t ++ u)[p]? = some op) (hg : op.g = g) (hle : t.size ≤ p) (hu : ∀ op ∈ u, op.act ≠ .mark .disable ∧ op.act ≠ .mark .enable) (hd : Deaf t g = 0) : (t ++ u).heard p := by
 refine ⟨g, by simp [Trace.g?, hp, hg], ?_⟩
 have key : ∀ p, p ≤ (t ++ u).size → t.size ≤ p → (t ++ u).deaf g p = Deaf t g := by
  intro p
  induction p with
  | zero =>
   intro h5 h6
   have : t.size = 0 := by omega
   unfold Deaf; rw [this]; rfl
  | succ p ih =>
   intro h5 h6
   rcases Nat.lt_or_ge p t.size with h7 | h7
   ·have : p + 1 = t.size := by omega
    rw [this, deaf_old (Nat.le_refl _)]; rfl
   ·obtain ⟨y, hy⟩ : ∃ y, (t ++ u)[p]? = some y := ⟨(t ++ u)[p], Array.getElem?_eq_getElem (by omega)⟩
    rw [deaf_succ hy, ih (by omega) h7]
    rcases getElem?_append_cases hy with ⟨h8, _⟩ | ⟨_, h8⟩
    ·omega
    ·obtain ⟨n1, n2⟩ := hu y h8
     unfold deafStep
     split
     ·rename_i e; exact absurd e n1
     ·rename_i e; exact absurd e n2
     ·rfl
 rw [key p (Nat.le_of_lt (lt_size_of_getElem? hp)) hle]
 exact hd
section
variable {ph : Ph} {w0 : World} {M0 : Mem} {gs gs' : Array Goroutine} {w w' : World} {t u : Trace} {c : Nat → Cls} {k : Nat → Nat} {mem : Nat → Mem} {cl : Bool} {sF sL rL : Nat} {buf : Array Value}
theorem Ph.Inv.took (h : ph.Inv w0 M0 gs w t c k mem cl sF sL rL buf) {r : Nat} {g1 : Goroutine} {buf' : Array Value} (hz : ph.N0 + ph.n < gs.size) (hc : c (ph.N0 + ph.n) = .cR (r + 1)) (hs : ph.CStop (r + 1) (mem (ph.N0 + ph.n)) g1)
  (hsz : gs'.size = gs.size) (e1 : gs'[ph.N0 + ph.n]? = some (fin ph.P g1 ph.recvL (.recv false) (.bool true) true)) (e2 : ∀ i, i ≠ ph.N0 + ph.n → gs'[i]? = gs[i]?)
  (hw : ph.Near w w') (hF : w'.heap[ph.F]? = w.heap[ph.F]?) (hL : w'.heap[ph.L]? = some (.chan ph.n buf' false sL (rL + 1) false)) (hb : buf.size = buf'.size + 1) (hbuf : ∀ v ∈ buf', v = .bool true) (hu : Mute u)
  (hrecv : ∃ (q : Nat) (z : MemOp), (t ++ u)[q]? = some z ∧ z.g = ph.N0 + ph.n ∧ t.size ≤ q ∧ z.act = .recvDone ph.L rL) :
  ∃ k1, ph.Inv w0 M0 gs' w' (t ++ u) (upd c (ph.N0 + ph.n) (.cR r)) (upd k (ph.N0 + ph.n) k1) mem cl sF sL (rL + 1) buf' := by
 have hpos := ph.pos
 obtain ⟨_, k1, hk1⟩ := hs
 have hclv : c (ph.N0 + ph.n) ≠ .lv := by rw [hc]; simp
 have hlvs : ∀ i, 0 < i → (upd c (ph.N0 + ph.n) (.cR r) i = .lv ↔ c i = .lv) := fun i hi => by
  by_cases hij : i = ph.N0 + ph.n
  ·subst hij; rw [upd_same]; simp [hclv]
  ·rw [upd_ne _ _ hij]
 have hact : ph.Act gs.size c (ph.N0 + ph.n) := .inr ⟨by omega, hz, hclv⟩
 refine ⟨k1, ?_, fun i g hg => ?_, fun i hi => ?_, by rw [hsz]; exact (hb ▸ h.proto).took hz hc, ⟨hF.trans h.chan.F, hL, hbuf⟩, ?_, h.hp.comm hw.os hw.output hw.size hw.heap⟩
 ·rw [hsz, act_cls hlvs]
  exact h.uni.comm hw.size hw.heap hu
 ·by_cases hij : i = ph.N0 + ph.n
  ·subst hij
   rw [e1] at hg
   obtain rfl := Option.some.inj hg
   rw [upd_same, upd_same]
   exact hk1
  ·rw [e2 i hij] at hg
   rw [upd_ne _ _ hij, upd_ne _ _ hij]
   exact role_trace (h.ok i g hg) fun _ => Deaf_keep' t i u fun op hop => (hu op hop).2
 ·rw [Deaf_keep' t i u fun op hop => (hu op hop).2]
  exact h.above i (by omega)
 ·rw [hsz]
  have ht := h.tr.quiet fun op hop => (hu op hop).1
  refine ⟨ht.seen, fun i hi hl => ht.tW i hi ((hlvs _ (by omega)).1 hl), fun i hi => ?_, ht.tX, ht.tF0, ht.tF1⟩
  rcases Nat.lt_or_ge i rL with h1 | h1
  ·exact ht.tC i h1
  ·obtain rfl : i = rL := by omega
   obtain ⟨q, z, h2, h3, h4, h5⟩ := hrecv
   exact ⟨q, z, h2, h3, h5, heard_new h2 h3 h4 (fun op hop => (hu op hop).2) (h.uni.deaf _ hact)⟩
theorem Ph.Inv.touchF (h : ph.Inv w0 M0 gs w t c k mem cl sF sL rL buf) {y : MemOp} {r : Nat} (hz : ph.N0 + ph.n < gs.size) (hc : c (ph.N0 + ph.n) = .cR r) (hy : y.g = ph.N0 + ph.n) (hy2 : y.act = .access ⟨.obj ph.F, false, true⟩) : ph.Inv w0 M0 gs w (t ++ #[y]) c k mem cl sF sL rL buf := by
 have hF := h.lt.1
 have hact : ph.Act gs.size c (ph.N0 + ph.n) := .inr ⟨by omega, hz, by rw [hc]; simp⟩
 have hu : ∀ op ∈ #[y], op = y := fun op hop => by simpa using hop
 have hu2 : ∀ op ∈ #[y], op.act ≠ .mark .disable ∧ op.act ≠ .mark .enable := fun op hop => by rw [hu op hop, hy2]; simp
 have htouch : ∀ op ∈ #[y], ∀ a, op.act.touch? = some a → a.loc.at ph.F := fun op hop a ha => by
  rw [hu op hop, hy2] at ha
  simp only [MemAct.touch?, Option.some.injEq] at ha
  subst ha
  rfl
 refine ⟨⟨fun said => noRace_append (h.uni.clean said) (g := ph.N0 + ph.n) (fun op hop => by rw [hu op hop]; exact hy) fun i a ha op hop b hb hcf => h.tr.tF1 hz i a ha (hcf.1 ▸ htouch op hop b hb), h.uni.holds, h.uni.apart, h.uni.chan, fun i b r hb x a ha hab hr => ?_, fun i hi x a b ha hab hle => ?_, fun i hi => ?_, h.uni.idle⟩,
  fun i g hg => role_trace (h.ok i g hg) fun _ => Deaf_keep' t i _ hu2, fun i hi => by rw [Deaf_keep' t i _ hu2]; exact h.above i hi, h.proto, h.chan, h.tr.own h.proto (.inr ⟨by omega, hz, by rw [hc]; simp⟩) (fun op hop => by rw [hu op hop]; exact hy) fun _ _ _ _ _ => ⟨rfl, hz⟩, h.hp⟩
 ·rcases touch_cases ha with h1 | ⟨op, hop, h2, _⟩
  ·exact (h.uni.km i b r hb x a h1 hab hr).app _
  ·obtain rfl := at_unique hab (htouch op hop a h2)
   exact absurd ⟨r, hb⟩ (h.uni.chan i).1
 ·rcases touch_cases ha with h1 | ⟨op, hop, h2, _⟩
  ·exact (h.uni.kn i hi x a b h1 hab hle).app _
  ·obtain rfl := at_unique hab (htouch op hop a h2)
   omega
 ·rw [Deaf_keep' t i _ hu2]; exact h.uni.deaf i hi
theorem Ph.Inv.close (h : ph.Inv w0 M0 gs w t c k mem cl sF sL rL buf) {g' : Goroutine} {q : Nat} {z : MemOp} (hz : ph.N0 + ph.n < gs.size) (hc : c (ph.N0 + ph.n) = .cR 0) (hq : QuitsD ph.P q 0 g')
  (hsz : gs'.size = gs.size) (e1 : gs'[ph.N0 + ph.n]? = some g') (e2 : ∀ i, 0 < i → i ≠ ph.N0 + ph.n → gs'[i]? = gs[i]?)
  (e0 : ∀ g, gs'[0]? = some g → ∃ g0, gs[0]? = some g0 ∧ ((g0.status = .running ∧ g = g0) ∨ (g0.status = .blocked ∧ g = { g0 with status := .running })))
  (hw : ph.Near w w') (hF : w'.heap[ph.F]? = some (.chan 0 #[] true sF sF false)) (hL : w'.heap[ph.L]? = w.heap[ph.L]?) (hz1 : z.g = ph.N0 + ph.n) (hz2 : z.act = .close ph.F) :
  ∃ k1 k0, ph.Inv w0 M0 gs' w' (t ++ #[z]) (upd (upd c (ph.N0 + ph.n) .lv) 0 (wake (c 0))) (upd (upd k (ph.N0 + ph.n) k1) 0 k0) (upd mem (ph.N0 + ph.n) []) true sF sL rL buf ∧ (wake (c 0) = c 0 → k0 = k 0) := by
 have hpos := ph.pos
 have hu : Mute #[z] := fun op hop => by
  simp only [List.mem_toArray, List.mem_cons, List.not_mem_nil, or_false] at hop
  subst hop; rw [hz2]; exact ⟨rfl, by simp, by simp⟩
 have hclv : c (ph.N0 + ph.n) ≠ .lv := by rw [hc]; simp
 have hact : ph.Act gs.size c (ph.N0 + ph.n) := .inr ⟨by omega, hz, hclv⟩
 have hdeaf : Deaf (t ++ #[z]) (ph.N0 + ph.n) = 0 := by rw [Deaf_keep' t _ _ fun op hop => (hu op hop).2]; exact h.uni.deaf _ hact
 have hproto := h.proto.close hz hc
 have hzp : (t ++ #[z])[t.size]? = some z := by rw [Array.getElem?_append_right (Nat.le_refl _)]; simp
 have hall : ∀ j, j < ph.n → c (ph.N0 + j) = .lv := fun j hj => by
  have := (hproto.closed rfl).2.2 j hj
  rwa [upd_ne _ _ (by omega), upd_ne _ _ (by omega)] at this
 have hrL : rL = ph.n := (hproto.closed rfl).2.1
 have hsL : sL ≤ ph.n := by
  rw [h.proto.cnt]
  have := sumTo_le (f := fun j => lvn (c (ph.N0 + j))) (c := 1) (j := ph.n) fun i _ => lvn_le _
  omega
 refine ⟨q, k 0, ⟨?_, fun i g hg => ?_, fun i hi => ?_, by rw [hsz]; exact hproto, ⟨hF, hL.trans h.chan.L, h.chan.buf⟩, ?_, ?_⟩, fun _ => rfl⟩
 ·rw [hsz]
  have h1 := (h.uni.comm hw.size hw.heap hu).drop (ph.N0 + ph.n)
  have hcls : ∀ i, 0 < i → (upd (upd c (ph.N0 + ph.n) .lv) 0 (wake (c 0)) i = .lv ↔ (i = ph.N0 + ph.n ∨ c i = .lv)) := fun i hi => by
   rw [upd_ne _ _ (by omega)]
   by_cases hij : i = ph.N0 + ph.n
   ·subst hij; rw [upd_same]; simp
   ·rw [upd_ne _ _ hij]; simp [hij]
  refine h1.fewer (fun i hi => ?_) fun i hi => ?_
  ·rcases hi with rfl | ⟨a, b, e⟩
   ·exact .inl rfl
   ·exact .inr ⟨a, b, fun e' => e ((hcls i (by omega)).2 (.inr e'))⟩
  ·by_cases hij : i = ph.N0 + ph.n
   ·rw [hij, upd_same]
   ·refine h1.idle i fun ha => hi ?_
    rcases ha with rfl | ⟨a, b, e⟩
    ·exact .inl rfl
    ·exact .inr ⟨a, b, fun e' => ((hcls i (by omega)).1 e').elim hij e⟩
 ·by_cases hi0 : i = 0
  ·subst hi0
   obtain ⟨g0, hg0, hcase⟩ := e0 g hg
   rw [upd_same, upd_same, upd_ne _ _ (by omega)]
   have hro := h.ok 0 g0 hg0
   have hmain : ∃ r got, c 0 = .mR r got ∨ c 0 = .mP r got := by
    rcases h.proto.main with ⟨s, _, _, h2⟩ | ⟨⟨r, got, h1⟩ | ⟨⟨r, got, h1⟩, _⟩, h2⟩
    ·omega
    ·exact ⟨r, got, .inl h1⟩
    ·exact ⟨r, got, .inr h1⟩
   obtain ⟨r, got, h1 | h1⟩ := hmain
   ·rw [h1] at hro ⊢
    rcases hcase with ⟨_, rfl⟩ | ⟨hb, _⟩
    ·exact hro
    ·rcases role_status' hro rfl with x | x <;> rw [x] at hb <;> cases hb
   ·rw [h1] at hro ⊢
    rcases hcase with ⟨hb, _⟩ | ⟨_, rfl⟩
    ·have := role_blocked hro rfl
     rw [hb] at this; cases this
    ·obtain ⟨g2, rfl, hst⟩ := hro
     have hat := mStop_at r got _ _ hst
     have e : fin ph.P ({ parked (bareG g2) #[ph.recvF] (.recv true) with status := .running } : Goroutine) ph.recvF (.recv true) = fin ph.P g2 ph.recvF (.recv true) := rfl
     have hat' : AtC ph.P true (mem 0) ({ parked (bareG g2) #[ph.recvF] (.recv true) with status := .running } : Goroutine) ph.recvF (.recv true) := ⟨rfl, fun w hw => by
      have := hat.2 w hw
      rw [← stepG_same (g := ({ parked (bareG g2) #[ph.recvF] (.recv true) with status := .running } : Goroutine)) (h := g2) rfl rfl rfl w] at this
      exact this⟩
     have hst' : ph.MStop r got (mem 0) ({ parked (bareG g2) #[ph.recvF] (.recv true) with status := .running } : Goroutine) := by
      cases r with
      | zero => exact ⟨hat', hst.2⟩
      | succ r => exact ⟨hat', hst.2⟩
     show Co ph.P true (ph.MStop r got) (k 0) (mem 0) _
     cases k 0 with
     | zero => exact hst'
     | succ n => exact .inl hst'
  ·rw [upd_ne _ _ hi0, upd_ne _ _ hi0]
   by_cases hij : i = ph.N0 + ph.n
   ·subst hij
    rw [e1] at hg
    obtain rfl := Option.some.inj hg
    rw [upd_same, upd_same, upd_same]
    show QuitsD ph.P q _ _
    rw [hdeaf]
    exact hq
   ·rw [e2 i (by omega) hij] at hg
    rw [upd_ne _ _ hij, upd_ne _ _ hij, upd_ne _ _ hij]
    exact role_trace (h.ok i g hg) fun _ => Deaf_keep' t i _ fun op hop => (hu op hop).2
 ·rw [Deaf_keep' t i _ fun op hop => (hu op hop).2]
  exact h.above i (by omega)
 ·rw [hsz]
  have ht := h.tr.quiet fun op hop => (hu op hop).1
  refine ⟨ht.seen, fun i hi hl => ?_, ht.tC, fun _ => ⟨t.size, z, hzp, hz2, heard_new hzp hz1 (Nat.le_refl _) (fun op hop => (hu op hop).2) (h.uni.deaf _ hact), fun x a ha hm => ?_⟩, ht.tF0, ht.tF1⟩
  ·exact ht.tW i hi (hall i hi)
  ·rcases ht.seen x a ha hm with h1 | ⟨g, h1, h2, h3⟩
   ·exact .inl h1
   ·have hxs : x < t.size := by
     have := quiet_touch (fun op hop => (hu op hop).1) ha
     obtain ⟨y, hy, _⟩ := touch_of this
     exact lt_size_of_getElem? hy
    have hzle := h.proto.sz_le
    obtain ⟨j, rfl⟩ : ∃ j, g = ph.N0 + j := ⟨g - ph.N0, by omega⟩
    obtain ⟨y, hy, hyg⟩ := Option.map_eq_some_iff.1 h1
    rcases Nat.lt_or_ge j ph.n with hj | hj
    ·obtain ⟨p, i, op, h4, h5, h6, h7, h8⟩ := ht.tW j hj (hall j hj)
     rcases h8 x a ha h1 with h9 | h9
     ·exact .inl h9
     ·obtain ⟨q', z', h10, h11, h12, h13⟩ := ht.tC i (by omega)
      have hpq : HappensBefore (t ++ #[z]) p q' := .single (.inr ⟨.handOver (c := ph.L) (k := i) (by rw [act?_of h4, h5]) (by rw [act?_of h10, h12]), h7, h13⟩)
      have hq' : q' < t.size := by
       rcases getElem?_append_cases h10 with ⟨hx, _⟩ | ⟨_, hx⟩
       ·exact hx
       ·simp only [List.mem_toArray, List.mem_cons, List.not_mem_nil, or_false] at hx
        rw [hx, hz2] at h12; cases h12
      exact .inr (.inr ((h9.hb hpq).trans (hb_po hq' h10 hzp (h11.trans hz1.symm))))
    ·obtain rfl : j = ph.n := by omega
     exact .inr (.inr (hb_po hxs hy hzp (hyg.trans hz1.symm)))
 ·refine (h.hp.comm hw.os hw.output hw.size hw.heap).mems fun i b hb => ?_
  by_cases hij : i = ph.N0 + ph.n
  ·rw [hij, upd_same] at hb; obtain ⟨o, ho⟩ := hb; simp at ho
  ·rw [upd_ne _ _ hij] at hb; exact ⟨i, hb⟩
theorem Ph.Inv.spawns (h : ph.Inv w0 M0 gs w t c k mem cl sF sL rL buf) {x y : MemOp} {g' child : Goroutine} {Mc M' : Mem} {cm : Cls} {kc km : Nat} (hx : x.g = 0 ∧ x.act = .go gs.size) (hy : y.g = gs.size ∧ y.act = .start)
  (hs : Split (mem 0) Mc M') (hcm : c 0 ≠ .lv) (hcc : c gs.size ≠ .lv) (h0 : ∀ t', ph.RoleOk t' 0 cm km M' g') (h1 : ∀ t', ph.RoleOk t' gs.size (c gs.size) kc Mc child) (hN : ph.N0 ≤ gs.size)
  (hproto : ph.Proto (gs.size + 1) (upd c 0 cm) cl sL rL buf.size) :
  ph.Inv w0 M0 ((gs.setIfInBounds 0 g').push child) w (t ++ #[x, y]) (upd c 0 cm) (upd (upd k 0 km) gs.size kc) (upd (upd mem 0 M') gs.size Mc) cl sF sL rL buf := by
 have hpos := ph.pos
 have hu : Mute #[x, y] := fun op hop => by
  simp only [List.mem_toArray, List.mem_cons, List.not_mem_nil, or_false] at hop
  rcases hop with rfl | rfl
  ·rw [hx.2]; exact ⟨rfl, by simp, by simp⟩
  ·rw [hy.2]; exact ⟨rfl, by simp, by simp⟩
 have hsz : ((gs.setIfInBounds 0 g').push child).size = gs.size + 1 := by simp
 have hna : ¬ ph.Act gs.size c gs.size := fun hx => by rcases hx with hx | ⟨_, hx, _⟩ <;> omega
 have hU := h.uni.spawn (.inl rfl) hna (h.above gs.size (Nat.le_refl _)) hs hx hy
 refine ⟨?_, fun i g hg => ?_, fun i hi => ?_, by rw [hsz]; exact hproto, h.chan, ?_, ?_⟩
 ·have e : ph.Act ((gs.setIfInBounds 0 g').push child).size (upd c 0 cm) = fun i => ph.Act gs.size c i ∨ i = gs.size := by
   rw [hsz]
   funext i
   unfold Ph.Act
   rcases Nat.eq_zero_or_pos i with rfl | hi
   ·simp
   ·rw [upd_ne _ _ (by omega)]
    apply propext
    constructor
    ·rintro (h2 | ⟨h2, h3, h4⟩)
     ·omega
     ·rcases Nat.lt_or_ge i gs.size with h5 | h5
      ·exact .inl (.inr ⟨h2, h5, h4⟩)
      ·exact .inr (by omega)
    ·rintro ((h2 | ⟨h2, h3, h4⟩) | rfl)
     ·exact .inl h2
     ·exact .inr ⟨h2, by omega, h4⟩
     ·exact .inr ⟨hN, by omega, hcc⟩
  rw [e]
  exact hU
 ·by_cases his : i = gs.size
  ·subst his
   have : ((gs.setIfInBounds 0 g').push child)[gs.size]? = some child := by rw [Array.getElem?_push]; simp
   rw [this] at hg
   obtain rfl := Option.some.inj hg
   rw [upd_same, upd_same, upd_ne _ _ (by omega)]
   exact h1 _
  ·rw [upd_ne _ _ his, upd_ne _ _ his]
   have hlt : i < gs.size := by have := lt_of_some hg; rw [hsz] at this; omega
   rw [Array.getElem?_push_lt (by simpa using hlt)] at hg
   by_cases hi0 : i = 0
   ·subst hi0
    have : g = g' := by simpa using hg.symm
    subst this
    rw [upd_same, upd_same, upd_same]
    exact h0 _
   ·rw [upd_ne _ _ hi0, upd_ne _ _ hi0, upd_ne _ _ hi0]
    refine role_trace (h.ok i g ?_) fun _ => Deaf_keep' t i _ fun op hop => (hu op hop).2
    rw [← hg, ← Array.getElem?_eq_getElem, Array.getElem?_setIfInBounds_ne (by omega)]
 ·rw [Deaf_keep' t i _ fun op hop => (hu op hop).2]
  exact h.above i (by rw [hsz] at hi; omega)
 ·rw [hsz]
  refine (h.tr.quiet fun op hop => (hu op hop).1).cls (by omega) (Nat.le_refl _) (fun i hi hl => by rwa [upd_ne _ _ (by omega)] at hl) fun hz => ?_
  rcases Nat.lt_or_ge (ph.N0 + ph.n) gs.size with hlt | hge
  ·exact .inl hlt
  ·have e : gs.size = ph.N0 + ph.n := by omega
   refine .inr fun i a ha hF => ?_
   have := Go.ConcN.fork_knows hx hy (h.uni.deaf 0 (.inl rfl)) (h.above _ (Nat.le_refl _)) (h.tr.tF0 (by omega) i a (quiet_touch (fun op hop => (hu op hop).1) ha) hF)
   rwa [e] at this
 ·refine h.hp.mems fun i b hb => ?_
  by_cases his : i = gs.size
  ·rw [his, upd_same] at hb; exact ⟨0, (hs.own b hb).1⟩
  ·rw [upd_ne _ _ his] at hb
   by_cases hi0 : i = 0
   ·rw [hi0, upd_same] at hb
    rcases hs.kept b true hb with h2 | ⟨h2, _⟩
    ·exact ⟨0, h2⟩
    ·cases h2
   ·rw [upd_ne _ _ hi0] at hb; exact ⟨i, hb⟩
end
theorem m_upd {c : Nat → Cls} {k : Nat → Nat} {sz i : Nat} (x : Cls) (y : Nat) (hi : i < sz) : sumTo sz (fun a => mloc (upd c i x a) (upd k i y a)) + mloc (c i) (k i) = sumTo sz (fun a => mloc (c a) (k a)) + mloc x y := by
 have := sumTo_upd (fun a => (c a, k a)) (x, y) (fun p => mloc p.1 p.2) hi
 rw [sumTo_congr (g := fun a => mloc (upd c i x a) (upd k i y a)) fun a _ => ?_] at this
 ·exact this
 ·by_cases h : a = i
  ·subst h; simp [upd_same]
  ·simp [upd_ne _ _ h]
section
variable {ph : Ph} {sz sL rL bs i : Nat} {c : Nat → Cls} {cl : Bool}
theorem Ph.Proto.is0 (h : ph.Proto sz c cl sL rL bs) : (∃ s, c 0 = .mS s) ∨ (∃ r got, c 0 = .mR r got) ∨ ∃ r got, c 0 = .mP r got ∧ cl = false := by
 rcases h.main with ⟨s, h1, _⟩ | ⟨⟨r, got, h1⟩ | ⟨⟨r, got, h1⟩, h2⟩, _⟩
 ·exact .inl ⟨s, h1⟩
 ·exact .inr (.inl ⟨r, got, h1⟩)
 ·exact .inr (.inr ⟨r, got, h1, h2⟩)
theorem Ph.Proto.idx (h : ph.Proto sz c cl sL rL bs) (hi : i < sz) : i = 0 ∨ c i = .lv ∨ (∃ j, j < ph.n ∧ i = ph.N0 + j) ∨ (i = ph.N0 + ph.n ∧ ((∃ r, c i = .cR r) ∨ ∃ r, c i = .cP r)) := by
 rcases Nat.eq_zero_or_pos i with h0 | h0
 ·exact .inl h0
 ·rcases Nat.lt_or_ge i ph.N0 with h1 | h1
  ·exact .inr (.inl (h.old i h0 h1))
  ·have := h.sz_le
   obtain ⟨j, rfl⟩ : ∃ j, i = ph.N0 + j := ⟨i - ph.N0, by omega⟩
   rcases Nat.lt_or_ge j ph.n with h2 | h2
   ·exact .inr (.inr (.inl ⟨j, h2, rfl⟩))
   ·obtain rfl : j = ph.n := by omega
    rcases h.clos with ⟨r, h3, _⟩ | ⟨r, h3, _⟩ | ⟨h3, _⟩
    ·exact .inr (.inr (.inr ⟨rfl, .inl ⟨r, h3⟩⟩))
    ·exact .inr (.inr (.inr ⟨rfl, .inr ⟨r, h3⟩⟩))
    ·exact .inr (.inl h3)
theorem Ph.Proto.isW (h : ph.Proto sz c cl sL rL bs) (hi : i < sz) (hc : c i = .wA ∨ c i = .wP ∨ c i = .wB) : ∃ j, j < ph.n ∧ i = ph.N0 + j := by
 rcases h.idx hi with rfl | h1 | h1 | ⟨_, ⟨r, h1⟩ | ⟨r, h1⟩⟩
 ·rcases h.is0 with ⟨s, h1⟩ | ⟨r, got, h1⟩ | ⟨r, got, h1, _⟩ <;> rw [h1] at hc <;> simp at hc
 ·rw [h1] at hc; simp at hc
 ·exact h1
 ·rw [h1] at hc; simp at hc
 ·rw [h1] at hc; simp at hc
theorem Ph.Proto.isC (h : ph.Proto sz c cl sL rL bs) (hi : i < sz) (hc : (∃ r, c i = .cR r) ∨ ∃ r, c i = .cP r) : i = ph.N0 + ph.n := by
 rcases h.idx hi with rfl | h1 | ⟨j, hj, rfl⟩ | ⟨h1, _⟩
 ·rcases h.is0 with ⟨s, h1⟩ | ⟨r, got, h1⟩ | ⟨r, got, h1, _⟩ <;> rw [h1] at hc <;> simp at hc
 ·rw [h1] at hc; simp at hc
 ·rcases h.work j hj with h1 | h1 | h1 | h1 <;> rw [h1] at hc <;> simp at hc
 ·exact h1
theorem Ph.Proto.isM (h : ph.Proto sz c cl sL rL bs) (hi : i < sz) (hc : (∃ s, c i = .mS s) ∨ (∃ r got, c i = .mR r got) ∨ ∃ r got, c i = .mP r got) : i = 0 := by
 rcases h.idx hi with h1 | h1 | ⟨j, hj, rfl⟩ | ⟨_, ⟨r, h1⟩ | ⟨r, h1⟩⟩
 ·exact h1
 ·rw [h1] at hc; simp at hc
 ·rcases h.work j hj with h1 | h1 | h1 | h1 <;> rw [h1] at hc <;> simp at hc
 ·rw [h1] at hc; simp at hc
 ·rw [h1] at hc; simp at hc
end
section
variable {ph : Ph} {w0 : World} {M0 : Mem} {gs : Array Goroutine} {w : World} {sl : Option (Nat × Nat)} {t : Trace} {c : Nat → Cls} {k : Nat → Nat} {mem : Nat → Mem} {cl : Bool} {sF sL rL : Nat} {buf : Array Value}
theorem Ph.Inv.awake (h : ph.Inv w0 M0 gs w t c k mem cl sF sL rL buf) : ∀ g ∈ gs, Conc.awake g := by
 intro g hg
 obtain ⟨i, hi, rfl⟩ := Array.mem_iff_getElem.1 hg
 exact role_awake (h.ok i _ (Array.getElem?_eq_getElem hi))
theorem Ph.Inv.alive (h : ph.Inv w0 M0 gs w t c k mem cl sF sL rL buf) : ∃ (i : Nat) (g : Goroutine), gs[i]? = some g ∧ g.status = .running := by
 have hp := h.proto
 have hpos := ph.pos
 have hge := hp.sz_le
 have get : ∀ i, i < gs.size → ∃ g, gs[i]? = some g := fun i hi => ⟨gs[i], Array.getElem?_eq_getElem hi⟩
 have run : ∀ i, i < gs.size → (c i).waits = false → c i ≠ .lv → ∃ (i : Nat) (g : Goroutine), gs[i]? = some g ∧ g.status = .running := fun i hi h1 h2 => by
  obtain ⟨g, hg⟩ := get i hi
  rcases role_status (h.ok i g hg) h1 with h3 | ⟨h3, _⟩
  ·exact ⟨i, g, hg, h3⟩
  ·exact absurd h3 h2
 rcases hp.is0 with ⟨s, h0⟩ | ⟨r, got, h0⟩ | ⟨r, got, h0, hcl⟩
 ·exact run 0 (by omega) (by rw [h0]; rfl) (by rw [h0]; simp)
 ·exact run 0 (by omega) (by rw [h0]; rfl) (by rw [h0]; simp)
 ·have hfull := hp.full fun s hs => by rw [h0] at hs; cases hs
  rcases hp.clos with ⟨r', h1, _⟩ | ⟨r', h1, h2, h3, _⟩ | ⟨_, _, h1⟩
  ·exact run (ph.N0 + ph.n) (by omega) (by rw [h1]; rfl) (by rw [h1]; simp)
  ·have hlt : sumTo ph.n (fun j => lvn (c (ph.N0 + j))) < ph.n := by
    have := hp.cnt; have := hp.bsz; omega
   obtain ⟨j, hj, hne⟩ := some_not_lv hlt
   have hnP := hp.park r got h0 j hj
   rcases hp.work j hj with e | e | e | e
   ·exact run (ph.N0 + j) (by omega) (by rw [e]; rfl) hne
   ·exact absurd e hnP
   ·exact run (ph.N0 + j) (by omega) (by rw [e]; rfl) hne
   ·exact absurd e hne
  ·rw [hcl] at h1; cases h1
theorem Ph.Inv.recvF_nil (h : ph.Inv w0 M0 gs w t c k mem cl sF sL rL buf) (i : Nat) (h0 : ∀ r got, c 0 ≠ .mP r got) : partners (gs.setIfInBounds i Conc.ph) ph.F false = [] := by
 refine partners_nil fun j g hg => ?_
 rcases getElem?_stand gs i j g hg with ⟨_, rfl⟩ | ⟨_, hg'⟩
 ·rfl
 ·refine off_recvF (h.ok j g hg') fun r got e => ?_
  have := h.proto.isM (lt_of_some hg') (.inr (.inr ⟨r, got, e⟩))
  subst this
  exact h0 r got e
theorem Ph.Inv.sendF_nil (h : ph.Inv w0 M0 gs w t c k mem cl sF sL rL buf) (i : Nat) (hw : ∀ j, j < ph.n → ph.N0 + j < gs.size → c (ph.N0 + j) ≠ .wP) : partners (gs.setIfInBounds i Conc.ph) ph.F true = [] := by
 refine partners_nil fun j g hg => ?_
 rcases getElem?_stand gs i j g hg with ⟨_, rfl⟩ | ⟨_, hg'⟩
 ·rfl
 ·refine off_sendF (h.ok j g hg') fun e => ?_
  obtain ⟨j', hj', rfl⟩ := h.proto.isW (lt_of_some hg') (.inr (.inl e))
  exact hw j' hj' (lt_of_some hg') e
theorem Ph.Inv.sendL_nil (h : ph.Inv w0 M0 gs w t c k mem cl sF sL rL buf) (i : Nat) : partners (gs.setIfInBounds i Conc.ph) ph.L true = [] := by
 refine partners_nil fun j g hg => ?_
 rcases getElem?_stand gs i j g hg with ⟨_, rfl⟩ | ⟨_, hg'⟩
 ·rfl
 ·exact off_sendL (h.ok j g hg')
theorem Ph.Inv.recvL_nil (h : ph.Inv w0 M0 gs w t c k mem cl sF sL rL buf) (i : Nat) (hc : ∀ r, c (ph.N0 + ph.n) ≠ .cP r) : partners (gs.setIfInBounds i Conc.ph) ph.L false = [] := by
 refine partners_nil fun j g hg => ?_
 rcases getElem?_stand gs i j g hg with ⟨_, rfl⟩ | ⟨_, hg'⟩
 ·rfl
 ·refine off_recvL (h.ok j g hg') fun r e => ?_
  obtain rfl := h.proto.isC (lt_of_some hg') (.inr ⟨r, e⟩)
  exact hc r e
end
structure Ph.Done (ph : Ph) (w0 : World) (M0 : Mem) (gs : Array Goroutine) (w : World) (t : Trace) (g : Goroutine) : Prop where
 at0 : gs[0]? = some g
 exit : ∃ M, ph.Exit M g ∧ Holds M w
 leavers : ∃ q, Leavers ph.P t gs q
 past : ∃ B, Past None B t
 hp : ∃ mem, ph.Hp w0 M0 w mem
 F : ∃ s, w.heap[ph.F]? = some (.chan 0 #[] true s s false)
 L : ∃ b s r, w.heap[ph.L]? = some (.chan ph.n b false s r false)
section
variable {ph : Ph} {Post : Value → World → Prop} {w0 : World} {M0 : Mem}
theorem Ph.Inv.finish {gs gs' : Array Goroutine} {w : World} {t : Trace} {c : Nat → Cls} {k : Nat → Nat} {mem : Nat → Mem} {cl : Bool} {sF sL rL : Nat} {buf : Array Value} {g : Goroutine} {got : List Nat} {y : MemOp}
  (h : ph.Inv w0 M0 gs w t c k mem cl sF sL rL buf) (hcl : cl = true) (h0 : c 0 = .mR 0 got) (hex : ph.Exit (mem 0) g) (hsz : gs'.size = gs.size) (e0 : gs'[0]? = some g) (e1 : ∀ i, i ≠ 0 → gs'[i]? = gs[i]?) (hy : y.g = 0 ∧ y.act = .recvClosed ph.F) : ph.Done w0 M0 gs' w (t ++ #[y]) g := by
 subst hcl
 have hpos := ph.pos
 have hu : Mute #[y] := fun op hop => by
  simp only [List.mem_toArray, List.mem_cons, List.not_mem_nil, or_false] at hop
  subst hop; rw [hy.2]; exact ⟨rfl, by simp, by simp⟩
 have hyp : (t ++ #[y])[t.size]? = some y := by rw [Array.getElem?_append_right (Nat.le_refl _)]; simp
 have hd0 : Deaf t 0 = 0 := h.uni.deaf 0 (.inl rfl)
 have ht := h.tr.quiet fun op hop => (hu op hop).1
 obtain ⟨pc, z, h1, h2, h3, h4⟩ := ht.tX rfl
 have hpc : HappensBefore (t ++ #[y]) pc t.size := .single (.inr ⟨.closed (c := ph.F) (by rw [act?_of h1, h2]) (by rw [act?_of hyp, hy.2]), h3, heard_new hyp hy.1 (Nat.le_refl _) (fun op hop => (hu op hop).2) hd0⟩)
 have known : ∀ i a, touchAt (t ++ #[y]) i = some a → a.loc.isMemory = true → Knows (t ++ #[y]) 0 i := fun i a ha hm => by
  rcases h4 i a ha hm with h5 | h5
  ·exact h5
  ·exact ⟨t.size, y, hyp, hy.1, .inr (h5.hb hpc)⟩
 have hnl : ∀ i g, 0 < i → gs[i]? = some g → c i = .lv := fun i g hi hg => by
  rcases Nat.lt_or_ge i ph.N0 with hlt | hge
  ·exact h.proto.old i hi hlt
  ·exact h.proto.not_lv rfl hge (lt_of_some hg)
 obtain ⟨B, _, hB⟩ := ops_low (t ++ #[y]) 0
 refine ⟨e0, ⟨mem 0, hex, h.uni.holds 0⟩, ⟨k, ⟨fun i g' hi hg => ?_, fun j hj => ?_⟩⟩, ⟨B, ⟨quiet_clean h.uni.clean fun op hop => (hu op hop).1, fun i a ha hm => .inl (known i a ha hm), fun i g' hg hne hc => ?_, ?_, hB⟩⟩, ⟨mem, h.hp⟩, ⟨sF, h.chan.F⟩, ⟨buf, sL, rL, h.chan.L⟩⟩
 ·rw [e1 i (by omega)] at hg
  have := h.ok i g' hg
  rw [hnl i g' hi hg] at this
  rw [Deaf_keep' t i _ fun op hop => (hu op hop).2]
  exact this
 ·rw [Deaf_keep' t j _ fun op hop => (hu op hop).2]
  exact h.above j (by omega)
 ·obtain ⟨x, hx, hm, _⟩ := hc
  obtain ⟨q, z', h5, h6, h7⟩ := known i x hx hm
  have hq : (t ++ #[y]).g? q = some 0 := by unfold Trace.g?; rw [h5, ← h6]; rfl
  refine ⟨q, hq, ?_⟩
  rcases h7 with rfl | h7
  ·rw [hq] at hg; exact absurd (Option.some.inj hg).symm hne
  ·exact h7
 ·rw [Deaf_keep' t 0 _ fun op hop => (hu op hop).2]; exact hd0
end
theorem Co.cases {P : Program} {main : Bool} {St : Mem → Goroutine → Prop} {n : Nat} {M : Mem} {g : Goroutine} (h : Co P main St n M g) :
  St M g ∨ ∃ n', n = n' + 1 ∧ ∀ w, Holds M w → ∃ g' w' es M', stepG P main g w = .go g' w' es ∧ Chg M w w' M' ∧ (∀ e ∈ es, OkAct M' (.ofEvent e)) ∧ Co P main St n' M' g' := by
 cases n with
 | zero => exact .inl h
 | succ n => exact h.imp id fun x => ⟨n, rfl, x.2⟩
section
variable {ph : Ph} {c : Nat → Cls}
theorem outer_w {j : Nat} (hj : j < ph.n) (x : Cls) : ph.outer (upd c (ph.N0 + j) x) + ww (c (ph.N0 + j)) = ph.outer c + ww x := by
 have hpos := ph.pos
 unfold Ph.outer
 rw [upd_ne _ _ (by omega), upd_ne _ _ (by omega)]
 have := sum_turn (c := c) (N0 := ph.N0) (x := x) ww hj
 omega
theorem outer_0 (x : Cls) : ph.outer (upd c 0 x) + ph.mw (c 0) = ph.outer c + ph.mw x := by
 have hpos := ph.pos
 unfold Ph.outer
 rw [upd_same, upd_ne c x (show ph.N0 + ph.n ≠ 0 by omega), sumTo_congr (g := fun j => ww (c (ph.N0 + j))) fun j _ => by rw [upd_ne _ _ (by omega)]]
 omega
theorem outer_c (x : Cls) : ph.outer (upd c (ph.N0 + ph.n) x) + cw (c (ph.N0 + ph.n)) = ph.outer c + cw x := by
 have hpos := ph.pos
 unfold Ph.outer
 rw [upd_same, upd_ne c x (show (0 : Nat) ≠ ph.N0 + ph.n by omega), sumTo_congr (g := fun j => ww (c (ph.N0 + j))) fun j hj => by rw [upd_ne _ _ (by omega)]]
 omega
end
theorem parked_eq {g g' : Goroutine} {cs cs' : Array CommCase} {sh sh' : CommShape} (h : parked g cs sh = parked g' cs' sh') : cs = cs' ∧ sh = sh' ∧ bareG g = bareG g' := by
 obtain ⟨f, c, s, d, o⟩ := g
 obtain ⟨f', c', s', d', o'⟩ := g'
 simp only [parked, Goroutine.mk.injEq, Option.some.injEq, Prod.mk.injEq] at h
 obtain ⟨rfl, rfl, _, rfl, rfl, rfl⟩ := h
 exact ⟨rfl, rfl, rfl⟩
theorem snd_var {α β : Type} {x : α × β} {a : α} {b : β} (h : x = (a, b)) : ∃ b', b' = b ∧ x = (a, b') := ⟨b, rfl, h⟩
theorem at_index {t : Trace} {u : List MemOp} {i : Nat} {op : MemOp} (h : u[i]? = some op) : (t ++ u.toArray)[t.size + i]? = some op := by
 rw [Array.getElem?_append_right (by omega)]
 simpa using h
section
variable {ph : Ph} {Post : Value → World → Prop} {w0 : World} {M0 : Mem}
theorem Ph.phase (hDone : ∀ gs w sl t g, ph.Done w0 M0 gs w t g → Fin ph.P Post (crowd gs w sl) t) :
  ∀ (o m : Nat) (gs : Array Goroutine) (w : World) (sl : Option (Nat × Nat)) (t : Trace) (c : Nat → Cls) (k : Nat → Nat) (mem : Nat → Mem) (cl : Bool) (sF sL rL : Nat) (buf : Array Value),
   ph.outer c = o → sumTo gs.size (fun i => mloc (c i) (k i)) = m → ph.Inv w0 M0 gs w t c k mem cl sF sL rL buf → Fin ph.P Post (crowd gs w sl) t := by
 intro o
 induction o using Nat.strongRecOn with
 | _ o iho =>
 intro m
 induction m using Nat.strongRecOn with
 | _ m ihm =>
 intro gs w sl t c k mem cl sF sL rL buf ho hm h0
 have hpos := ph.pos
 obtain ⟨i, g, d, sl', hi, hg, hst⟩ := crowd_pick (P := ph.P) (w := w) (sl := sl) h0.awake h0.alive
 have h := h0.drew d
 clear h0
 have hlt : i < gs.size := lt_of_some hi
 have hro := h.ok i g hi
 have hszle := h.proto.sz_le
 have loc : ∀ (St : Mem → Goroutine → Prop), Co ph.P (i == 0) St (k i) (mem i) g → (∀ k' M' g', Co ph.P (i == 0) St k' M' g' → ph.RoleOk t i (c i) k' M' g') → (∀ k', mloc (c i) k' = k' + 1) → ph.Act gs.size c i → c i ≠ .lv →
   (St (mem i) g → Fin ph.P Post (crowd gs w sl) t) → Fin ph.P Post (crowd gs w sl) t := by
  intro St hco hr hml ha hlv hstop
  rcases hco.cases with h1 | ⟨n', hn, h1⟩
  ·exact hstop h1
  ·obtain ⟨g', w', es, M', h2, h3, h4, h5⟩ := h1 (w.at d) (h.uni.holds i)
   obtain ⟨u, h6, h7⟩ := h.local (sl := sl') hi ha hlv h2 h3 h4 (hr _ _ _ h5)
   refine Fin.step (hst.trans h6) (ihm _ ?_ _ _ _ _ _ _ _ _ _ _ _ _ ho rfl h7)
   have := m_upd (c := c) (k := k) (c i) n' hlt
   rw [hml, hml] at this
   have e : upd c i (c i) = c := by funext a; by_cases h : a = i; subst h; rw [upd_same]; rw [upd_ne _ _ h]
   rw [e] at this
   rw [Array.size_setIfInBounds]
   omega
 have comm : ∀ {cc : CommCase} {sh : CommShape}, AtC ph.P (i == 0) (mem i) g cc sh → stepG ph.P (i == 0) g (w.at d) = .comm (bareG g) #[cc] true sh (w.at d) := fun hat => hat.2 _ (h.uni.holds i)
 have sub : ∀ {x : Cls} {k' : Nat}, mloc x k' < mloc (c i) (k i) → sumTo gs.size (fun a => mloc (upd c i x a) (upd k i k' a)) < m := fun {x k'} hx => by
  have := m_upd (c := c) (k := k) x k' hlt
  omega
 have hne0 : ∀ {j}, i = ph.N0 + j → (i == 0) = false := fun {j} e => by simp; omega
 cases hci : c i with
 | wP => rw [hci] at hro; have := role_blocked hro rfl; rw [hg] at this; cases this
 | cP r => rw [hci] at hro; have := role_blocked hro rfl; rw [hg] at this; cases this
 | mP r got => rw [hci] at hro; have := role_blocked hro rfl; rw [hg] at this; cases this
 | lv =>
  have hi0 : i ≠ 0 := by
   rintro rfl
   rcases h.proto.is0 with ⟨s, h1⟩ | ⟨r, got, h1⟩ | ⟨r, got, h1, _⟩ <;> rw [h1] at hci <;> cases hci
  obtain ⟨g', k', u, h1, h2, h3⟩ := h.slip (sl := sl') hi hi0 hci hg
  refine Fin.step (hst.trans h1) (ihm _ ?_ _ _ _ _ _ _ _ _ _ _ _ _ ho rfl h3)
  have := m_upd (c := c) (k := k) (c i) k' hlt
  rw [hci] at this
  have e : upd c i .lv = c := by funext a; by_cases h : a = i; subst h; rw [upd_same, hci]; rw [upd_ne _ _ h]
  rw [e] at this
  rw [show mloc Cls.lv (k i) = k i from rfl, show mloc Cls.lv k' = k' from rfl] at this
  rw [Array.size_setIfInBounds]
  omega
 | wA =>
  obtain ⟨j, hj, rfl⟩ := h.proto.isW hlt (.inl hci)
  have hf := hne0 rfl
  have hsub : ph.N0 + j - ph.N0 = j := by omega
  refine loc (ph.AStop j) (by rw [hci] at hro; rw [hf]; simpa [Ph.RoleOk, hsub] using hro) (fun k' M' g' hx => by rw [hci]; rw [hf] at hx; simpa [Ph.RoleOk, hsub] using hx) (fun k' => by rw [hci]; rfl) (.inr ⟨by omega, hlt, by rw [hci]; simp⟩) (by rw [hci]; simp) fun hstop => ?_
  have hst1 := comm (hf.symm ▸ hstop.1)
  have hcl : cl = false := by
   cases hcl : cl with
   | false => rfl
   | true => have := (h.proto.closed hcl).2.2 j hj; rw [hci] at this; cases this
  subst hcl
  by_cases hP : ∃ r got, c 0 = .mP r got
  ·
   obtain ⟨r, got, hP⟩ := hP
   have h0s : 0 < gs.size := by omega
   obtain ⟨g0, hg0⟩ : ∃ g0, gs[0]? = some g0 := ⟨gs[0], Array.getElem?_eq_getElem h0s⟩
   have hro0 := h.ok 0 g0 hg0
   rw [hP] at hro0
   obtain ⟨g2, rfl, hm2⟩ := hro0
   have only : ∀ (j' : Nat) (g' : Goroutine), gs[j']? = some g' → offersAt g' ph.F false ≠ [] → j' = 0 := fun j' g' hj' hx => by
    apply Classical.byContradiction
    intro hne
    refine hx (off_recvF (h.ok j' g' hj') fun r' got' e => hne (h.proto.isM (lt_of_some hj') (.inr (.inr ⟨r', got', e⟩))))
   have hoff : offersAt (parked (bareG g2) #[ph.recvF] (.recv true)) ph.F false = [0] := by rw [Ph.recvF, offersAt_parked_recv, if_pos rfl]
   obtain ⟨j0, gj, zj, shj, d', hj0, hgj, hrun⟩ := crowd_send_meets_some (P := ph.P) (sl := sl') hi hst1 h.chan.F
    (by
     intro hnil
     have : (0, 0) ∈ partners (gs.setIfInBounds (ph.N0 + j) Conc.ph) ph.F false := mem_partners.2 ⟨_, stand_get (by omega) hg0, by rw [hoff]; simp⟩
     rw [hnil] at this; cases this)
    (by
     intro j' k' hm
     obtain ⟨g', hg', hk'⟩ := mem_partners.1 hm
     rcases getElem?_stand gs _ j' g' hg' with ⟨_, rfl⟩ | ⟨hji, hg''⟩
     ·rw [offersAt_ph] at hk'; cases hk'
     ·obtain rfl := only j' g' hg'' (fun e => by rw [e] at hk'; cases hk')
      rw [hg0] at hg''
      obtain rfl := Option.some.inj hg''
      rw [hoff] at hk'
      exact ⟨by simpa using hk', hji, bareG g2, ph.zF, .recv true, hg0⟩)
   obtain rfl := only j0 _ hgj (by rw [offersAt_parked_recv, if_pos rfl]; simp)
   rw [hg0] at hgj
   obtain ⟨e1, rfl, e2⟩ := parked_eq (Option.some.inj hgj)
   have e3 : zj = ph.zF := by simp [Ph.recvF, rcase] at e1; exact e1.symm
   subst e3
   rw [comm_ev] at hrun
   obtain ⟨u, hu, hrun⟩ := snd_var hrun
   obtain ⟨r', k1, k2, rfl, hInv⟩ := h.meetF (u := u) (gs' := (gs.setIfInBounds 0 (gj.finishComm ph.P #[ph.recvF] (.recv true) 0 (ph.val j) true)).setIfInBounds (ph.N0 + j) ((bareG g).finishComm ph.P #[ph.sendF j] .send 0 undef false))
    (w' := ((w.at d).at d').setChan ph.F 0 #[] false (sF + 1) (sF + 1) false) (g1 := g) (g2 := g2) hj (.inl hci) (.inr hP) hstop hm2 (by simp)
    (by rw [Array.getElem?_setIfInBounds_self_of_lt (by simpa using hlt)]; rfl)
    (by
     rw [Array.getElem?_setIfInBounds_ne (by omega), Array.getElem?_setIfInBounds_self_of_lt h0s]
     show some (fin ph.P (bareG gj) _ _ _ _) = some (fin ph.P (bareG g2) _ _ _ _)
     rw [← e2]; rfl)
    (fun a h1 h2 => by rw [Array.getElem?_setIfInBounds_ne (by omega), Array.getElem?_setIfInBounds_ne (by omega)])
    (near_setF d' 0 #[] false _ _) (by rw [setChan_get, if_pos rfl, if_pos (show ph.F < ((w.at d).at d').heap.size from h.lt.1)]) (by rw [setChan_get, if_neg ph.apart]; rfl) (fun op hop => by
     rw [hu] at hop
     simp only [Array.empty_append, List.mem_toArray, List.mem_cons, List.not_mem_nil, or_false] at hop
     rcases hop with rfl | rfl | rfl | rfl <;> exact ⟨rfl, by simp, by simp⟩)
   refine Fin.step (hst.trans hrun) (iho _ ?_ _ _ _ _ _ _ _ _ _ _ _ _ _ rfl rfl hInv)
   have h1 := outer_0 (ph := ph) (c := upd c (ph.N0 + j) .wB) (.mR r' (j :: got))
   have h2 := outer_w (c := c) hj .wB
   rw [upd_ne _ _ (show (0 : Nat) ≠ ph.N0 + j by omega), hP] at h1
   rw [hci] at h2
   simp only [Ph.mw, ww] at h1 h2
   omega
  ·
   have hno : NoWays (w.at d) (gs.setIfInBounds (ph.N0 + j) Conc.ph) (ph.sendF j) := ways_send_none h.chan.F (by simp) (h.recvF_nil _ fun r got e => hP ⟨r, got, e⟩)
   obtain ⟨h1, h2⟩ := h.parks (sl := sl') (x := .wP) hi hf hstop.1 hno (by rw [hci]; simp) (by simp) ⟨g, by rw [hsub], by rw [hsub]; exact hstop⟩ (h.proto.parkA hj hlt hci fun r got e => hP ⟨r, got, e⟩) (fun j' hj' e => by
    by_cases hjj : ph.N0 + j' = ph.N0 + j
    ·rw [hjj, upd_same] at e; cases e
    ·rwa [upd_ne _ _ hjj] at e)
   have h1' := hst.trans h1
   refine Fin.step h1' ?_
   rw [Array.append_empty]
   refine ihm _ (by rw [Array.size_setIfInBounds]; exact sub (by rw [hci]; simp [mloc])) _ _ _ _ _ _ _ _ _ _ _ _ ?_ rfl h2
   have := outer_w (c := c) hj .wP
   rw [hci] at this
   simp only [ww] at this
   omega
 | wB =>
  obtain ⟨j, hj, rfl⟩ := h.proto.isW hlt (.inr (.inr hci))
  have hf := hne0 rfl
  refine loc ph.BStop (by rw [hci] at hro; rw [hf]; exact hro) (fun k' M' g' hx => by rw [hci]; rw [hf] at hx; exact hx) (fun k' => by rw [hci]; rfl) (.inr ⟨by omega, hlt, by rw [hci]; simp⟩) (by rw [hci]; simp) fun hstop => ?_
  have hst1 := comm (hf.symm ▸ hstop.1)
  have hsl : sL < ph.n := h.proto.lt_n hj (by rw [hci]; simp)
  have hbsz := h.proto.bsz
  by_cases hP : ∃ r, c (ph.N0 + ph.n) = .cP r
  ·
   obtain ⟨r, hP⟩ := hP
   have hzs : ph.N0 + ph.n < gs.size := by
    rcases Nat.lt_or_ge (ph.N0 + ph.n) gs.size with x | x
    ·exact x
    ·have := h.proto.unc x; rw [hP] at this; cases this
   obtain ⟨g0, hg0⟩ : ∃ g0, gs[ph.N0 + ph.n]? = some g0 := ⟨gs[ph.N0 + ph.n], Array.getElem?_eq_getElem hzs⟩
   have hro0 := h.ok _ g0 hg0
   rw [hP] at hro0
   obtain ⟨g2, rfl, _, kc, hkc⟩ := hro0
   have only : ∀ (j' : Nat) (g' : Goroutine), gs[j']? = some g' → offersAt g' ph.L false ≠ [] → j' = ph.N0 + ph.n := fun j' g' hj' hx => by
    apply Classical.byContradiction
    intro hne
    refine hx (off_recvL (h.ok j' g' hj') fun r' e => hne (h.proto.isC (lt_of_some hj') (.inr ⟨r', e⟩)))
   have hoff : offersAt (parked (bareG g2) #[ph.recvL] (.recv false)) ph.L false = [0] := by rw [Ph.recvL, offersAt_parked_recv, if_pos rfl]
   obtain ⟨j0, gj, zj, shj, d', hj0, hgj, hrun⟩ := crowd_send_meets_some (P := ph.P) (sl := sl') hi hst1 h.chan.L
    (by
     intro hnil
     have : (ph.N0 + ph.n, 0) ∈ partners (gs.setIfInBounds (ph.N0 + j) Conc.ph) ph.L false := mem_partners.2 ⟨_, stand_get (by omega) hg0, by rw [hoff]; simp⟩
     rw [hnil] at this; cases this)
    (by
     intro j' k' hm
     obtain ⟨g', hg', hk'⟩ := mem_partners.1 hm
     rcases getElem?_stand gs _ j' g' hg' with ⟨_, rfl⟩ | ⟨hji, hg''⟩
     ·rw [offersAt_ph] at hk'; cases hk'
     ·obtain rfl := only j' g' hg'' (fun e => by rw [e] at hk'; cases hk')
      rw [hg0] at hg''
      obtain rfl := Option.some.inj hg''
      rw [hoff] at hk'
      exact ⟨by simpa using hk', hji, bareG g2, ph.zL, .recv false, hg0⟩)
   obtain rfl := only j0 _ hgj (by rw [offersAt_parked_recv, if_pos rfl]; simp)
   rw [hg0] at hgj
   obtain ⟨e1, rfl, e2⟩ := parked_eq (Option.some.inj hgj)
   have e3 : zj = ph.zL := by simp [Ph.recvL, rcase] at e1; exact e1.symm
   subst e3
   rw [comm_ev] at hrun
   obtain ⟨u, hu, hrun⟩ := snd_var hrun
   rw [Array.empty_append] at hu
   have hmute : Mute u := fun op hop => by
    rw [hu] at hop
    simp only [List.mem_toArray, List.mem_cons, List.not_mem_nil, or_false] at hop
    rcases hop with rfl | rfl | rfl | rfl <;> exact ⟨rfl, by simp, by simp⟩
   have hdc : Deaf t (ph.N0 + ph.n) = 0 := h.uni.deaf _ (.inr ⟨by omega, hzs, by rw [hP]; simp⟩)
   obtain ⟨k1, hInv⟩ := h.said (u := u) (gs' := (gs.setIfInBounds (ph.N0 + ph.n) (gj.finishComm ph.P #[ph.recvL] (.recv false) 0 (.bool true) true)).setIfInBounds (ph.N0 + j) ((bareG g).finishComm ph.P #[ph.sendL] .send 0 undef false))
    (w' := ((w.at d).at d').setChan ph.L ph.n buf false (sL + 1) (rL + 1) false) (g1 := g) (x := .cR r) (rL' := rL + 1) (buf' := buf) (kc := kc) hj hlt hci hstop (by simp)
    (by rw [Array.getElem?_setIfInBounds_self_of_lt (by simpa using hlt)]; rfl)
    (fun g' hg' => by
     rw [Array.getElem?_setIfInBounds_ne (by omega), Array.getElem?_setIfInBounds_self_of_lt hzs] at hg'
     obtain rfl := Option.some.inj hg'
     have e : gj.finishComm ph.P #[ph.recvL] (.recv false) 0 (.bool true) true = fin ph.P (bareG gj) ph.recvL (.recv false) (.bool true) true := rfl
     rw [e, ← e2]
     exact hkc)
    (fun a h1 h2 => by rw [Array.getElem?_setIfInBounds_ne (by omega), Array.getElem?_setIfInBounds_ne (by omega)])
    (near_setL d' ph.n buf false _ _) (by rw [setChan_get, if_neg (Ne.symm ph.apart)]; rfl) (by rw [setChan_get, if_pos rfl, if_pos (show ph.L < ((w.at d).at d').heap.size from h.lt.2)]) hmute h.chan.buf
    (h.proto.said hj hlt hci (by omega) (.inr ⟨r, hP, rfl, rfl⟩)) (fun e => by cases e) (fun e => by rw [hP] at e; cases e)
    ⟨t.size + 0, _, by rw [hu]; exact at_index rfl, rfl, by omega, rfl⟩
    (fun i hi => by
     rcases Nat.lt_or_ge i rL with h1 | h1
     ·exact .inl h1
     ·obtain rfl : i = rL := by omega
      have hq : ∃ z, (t ++ u)[t.size + 3]? = some z ∧ z.g = ph.N0 + ph.n ∧ z.act = .recvDone ph.L i := ⟨_, by rw [hu]; exact at_index rfl, rfl, rfl⟩
      obtain ⟨z, hq1, hq2, hq3⟩ := hq
      exact .inr ⟨t.size + 3, z, hq1, hq2, hq3, heard_new hq1 hq2 (by omega) (fun op hop => (hmute op hop).2) hdc⟩)
   refine Fin.step (hst.trans hrun) (iho _ ?_ _ _ _ _ _ _ _ _ _ _ _ _ _ rfl rfl hInv)
   have h1 := outer_c (ph := ph) (c := upd c (ph.N0 + j) .lv) (.cR r)
   have h2 := outer_w (c := c) hj .lv
   rw [upd_ne _ _ (show ph.N0 + ph.n ≠ ph.N0 + j by omega), hP] at h1
   rw [hci] at h2
   simp only [cw, ww] at h1 h2
   omega
  ·
   have hrun := crowd_send_room (P := ph.P) (sl := sl') hi hst1 h.chan.L (by omega) (h.recvL_nil _ fun r e => hP ⟨r, e⟩)
   rw [comm_ev] at hrun
   obtain ⟨u, hu, hrun⟩ := snd_var hrun
   rw [Array.empty_append] at hu
   have hmute : Mute u := fun op hop => by
    rw [hu] at hop
    simp only [List.mem_toArray, List.mem_cons, List.not_mem_nil, or_false] at hop
    rcases hop with rfl | rfl <;> exact ⟨rfl, by simp, by simp⟩
   obtain ⟨k1, hInv⟩ := h.said (u := u) (gs' := gs.setIfInBounds (ph.N0 + j) ((bareG g).finishComm ph.P #[ph.sendL] .send 0 undef false))
    (w' := (w.at d).setChan ph.L ph.n (buf.push (.bool true)) false (sL + 1) rL false) (g1 := g) (x := c (ph.N0 + ph.n)) (rL' := rL) (buf' := buf.push (.bool true)) (kc := k (ph.N0 + ph.n)) hj hlt hci hstop (by simp)
    (by rw [Array.getElem?_setIfInBounds_self_of_lt hlt]; rfl)
    (fun g' hg' => by
     rw [Array.getElem?_setIfInBounds_ne (by omega)] at hg'
     exact role_trace (h.ok _ g' hg') fun _ => Deaf_keep' t _ u fun op hop => (hmute op hop).2)
    (fun a h1 h2 => by rw [Array.getElem?_setIfInBounds_ne (by omega)])
    (near_setL (w := w.at d) d ph.n (buf.push (.bool true)) false _ _) (by rw [setChan_get, if_neg (Ne.symm ph.apart)]) (by rw [setChan_get, if_pos rfl, if_pos (show ph.L < (w.at d).heap.size from h.lt.2)]) hmute
    (fun v hv => by
     rcases Array.mem_push.1 hv with hv | hv
     ·exact h.chan.buf v hv
     ·exact hv)
    (h.proto.said hj hlt hci (by simp; omega) (.inl ⟨rfl, rfl, fun r e => hP ⟨r, e⟩⟩)) id id
    ⟨t.size + 0, _, by rw [hu]; exact at_index rfl, rfl, by omega, rfl⟩ (fun i hi => .inl hi)
   refine Fin.step (hst.trans hrun) (iho _ ?_ _ _ _ _ _ _ _ _ _ _ _ _ _ rfl rfl hInv)
   have h1 := outer_c (ph := ph) (c := upd c (ph.N0 + j) .lv) (c (ph.N0 + ph.n))
   have h2 := outer_w (c := c) hj .lv
   rw [upd_ne _ _ (show ph.N0 + ph.n ≠ ph.N0 + j by omega)] at h1
   rw [hci] at h2
   simp only [ww] at h2
   omega
 | cR r =>
  obtain rfl := h.proto.isC hlt (.inl ⟨r, hci⟩)
  have hf := hne0 rfl
  have hcl : cl = false ∧ rL + r = ph.n := by
   rcases h.proto.clos with ⟨r', h1, h2, h3⟩ | ⟨r', h1, _⟩ | ⟨h1, _⟩ <;> rw [hci] at h1 <;> cases h1
   exact ⟨h3, h2⟩
  obtain ⟨rfl, hrn⟩ := hcl
  refine loc (ph.CStop r) (by rw [hci] at hro; rw [hf]; exact hro) (fun k' M' g' hx => by rw [hci]; rw [hf] at hx; exact hx) (fun k' => by rw [hci]; rfl) (.inr ⟨by omega, hlt, by rw [hci]; simp⟩) (by rw [hci]; simp) fun hstop => ?_
  cases r with
  | zero =>
   obtain ⟨g', hgo, hmw, q, hq⟩ := hstop.2 (w.at d) (h.uni.holds _) sF sF h.chan.F
   have hgo' : stepG ph.P (ph.N0 + ph.n == 0) g (w.at d) = .go g' ((w.at d).setChan ph.F 0 #[] true sF sF false) #[⟨.obj ph.F, false, true⟩, ⟨.obj ph.F, true, true⟩] := by rw [hf]; exact hgo
   have hrun := runT_crowd_go (P := ph.P) (sl := sl') hi hgo'
   have hev : MemOp.ofEvents (ph.N0 + ph.n) g.frame.fn g.frame.place #[⟨.obj ph.F, false, true⟩, ⟨.obj ph.F, true, true⟩] = #[{ g := ph.N0 + ph.n, fn := g.frame.fn, pos := g.frame.place, act := .access ⟨.obj ph.F, false, true⟩ }, { g := ph.N0 + ph.n, fn := g.frame.fn, pos := g.frame.place, act := .close ph.F }] := by simp [MemOp.ofEvents, MemAct.ofEvent]
   rw [hev] at hrun
   have hpr := h.proto.close hlt hci
   have hF' : ((w.at d).setChan ph.F 0 #[] true sF sF false).heap[ph.F]? = some (.chan 0 #[] true sF sF false) := by rw [setChan_get, if_pos rfl, if_pos h.lt.1]
   have h1 := h.touchF (y := { g := ph.N0 + ph.n, fn := g.frame.fn, pos := g.frame.place, act := .access ⟨.obj ph.F, false, true⟩ }) hlt hci rfl rfl
   obtain ⟨k1, k0, hInv, _⟩ := h1.close (gs' := (gs.map (woken ph.P g g' ((w.at d).setChan ph.F 0 #[] true sF sF false))).setIfInBounds (ph.N0 + ph.n) g') (w' := (w.at d).setChan ph.F 0 #[] true sF sF false) (z := { g := ph.N0 + ph.n, fn := g.frame.fn, pos := g.frame.place, act := .close ph.F }) hlt hci hq
    (by simp) (by rw [Array.getElem?_setIfInBounds_self_of_lt (by simpa using hlt)])
    (fun a h1 h2 => by
     rw [Array.getElem?_setIfInBounds_ne (Ne.symm h2), Array.getElem?_map]
     cases hga : gs[a]? with
     | none => rfl
     | some y =>
      simp only [Option.map_some, Option.some.injEq]
      have := hpr.nowait rfl (lt_of_some hga)
      rw [upd_ne _ _ (by omega), upd_ne _ _ h2] at this
      exact role_woken' (h.ok a y hga) this)
    (fun y hy => by
     rw [Array.getElem?_setIfInBounds_ne (by omega), Array.getElem?_map] at hy
     obtain ⟨g0, hg0, rfl⟩ := Option.map_eq_some_iff.1 hy
     refine ⟨g0, hg0, ?_⟩
     have hr0 := h.ok 0 g0 hg0
     rcases h.proto.is0 with ⟨s, h1⟩ | ⟨r, got, h1⟩ | ⟨r, got, h1, _⟩
     ·rw [h1] at hr0
      exact .inl ⟨(role_status hr0 rfl).resolve_right (by simp), role_woken' hr0 rfl⟩
     ·rw [h1] at hr0
      exact .inl ⟨(role_status hr0 rfl).resolve_right (by simp), role_woken' hr0 rfl⟩
     ·rw [h1] at hr0
      refine .inr ⟨role_blocked hr0 rfl, ?_⟩
      obtain ⟨g2, rfl, _⟩ := hr0
      unfold woken
      rw [if_pos]
      ·exact again_recv_closed hF'
      ·rcases hq.status with e | e <;> simp [hmw, e])
    (near_setF (w := w.at d) d 0 #[] true _ _) hF' (by rw [setChan_get, if_neg ph.apart]) rfl rfl
   rw [Array.append_assoc] at hInv
   refine Fin.step (hst.trans hrun) (iho _ ?_ _ _ _ _ _ _ _ _ _ _ _ _ _ rfl rfl hInv)
   have h1 := outer_0 (ph := ph) (c := upd c (ph.N0 + ph.n) .lv) (wake (c 0))
   have h2 := outer_c (ph := ph) (c := c) .lv
   rw [upd_ne _ _ (show (0 : Nat) ≠ ph.N0 + ph.n by omega)] at h1
   rw [hci] at h2
   have h3 : ph.mw (wake (c 0)) = ph.mw (c 0) := by cases c 0 <;> rfl
   simp only [cw] at h2
   omega
  | succ r =>
   have hst1 := comm (show AtC ph.P (ph.N0 + ph.n == 0) (mem (ph.N0 + ph.n)) g ph.recvL (.recv false) by rw [hf]; exact hstop.1)
   by_cases hb : buf.size = 0
   ·obtain rfl : buf = #[] := Array.eq_empty_of_size_eq_zero hb
    have hno : NoWays (w.at d) (gs.setIfInBounds (ph.N0 + ph.n) Conc.ph) ph.recvL := ways_recv_none h.chan.L (h.sendL_nil _)
    obtain ⟨h1, h2⟩ := h.parks (sl := sl') (x := .cP r) hi hf hstop.1 hno (by rw [hci]; simp) (by simp) ⟨g, rfl, hstop⟩ (h.proto.parkC hlt hci rfl) (fun j' hj' e => by rwa [upd_ne _ _ (by omega)] at e)
    refine Fin.step (hst.trans h1) ?_
    rw [Array.append_empty]
    refine ihm _ (by rw [Array.size_setIfInBounds]; exact sub (by rw [hci]; simp [mloc])) _ _ _ _ _ _ _ _ _ _ _ _ ?_ rfl h2
    have := outer_c (ph := ph) (c := c) (.cP r)
    rw [hci] at this
    simp only [cw] at this
    omega
   ·have hrun := crowd_recv_buf (P := ph.P) (sl := sl') hi hst1 h.chan.L (by omega) (h.sendL_nil _)
    rw [comm_ev] at hrun
    obtain ⟨u, hu, hrun⟩ := snd_var hrun
    rw [Array.empty_append] at hu
    have hmute : Mute u := fun op hop => by
     rw [hu] at hop
     simp only [List.mem_toArray, List.mem_cons, List.not_mem_nil, or_false] at hop
     rcases hop with rfl | rfl <;> exact ⟨rfl, by simp, by simp⟩
    have hv : buf.getD 0 undef = .bool true := h.chan.buf _ (by
     rw [Array.getD_eq_getD_getElem?, Array.getElem?_eq_getElem (by omega)]
     exact Array.getElem_mem _)
    rw [hv] at hrun
    obtain ⟨k1, hInv⟩ := h.took (u := u) (gs' := gs.setIfInBounds (ph.N0 + ph.n) ((bareG g).finishComm ph.P #[ph.recvL] (.recv false) 0 (.bool true) true)) (w' := (w.at d).setChan ph.L ph.n (buf.extract 1 buf.size) false sL (rL + 1) false) (g1 := g) (buf' := buf.extract 1 buf.size) hlt hci hstop (by simp)
     (by rw [Array.getElem?_setIfInBounds_self_of_lt hlt]; rfl) (fun a h1 => by rw [Array.getElem?_setIfInBounds_ne (Ne.symm h1)])
     (near_setL (w := w.at d) d ph.n (buf.extract 1 buf.size) false _ _) (by rw [setChan_get, if_neg (Ne.symm ph.apart)]) (by rw [setChan_get, if_pos rfl, if_pos (show ph.L < (w.at d).heap.size from h.lt.2)])
     (by simp; omega) (fun v hv => h.chan.buf v (by
      obtain ⟨a, ha, rfl⟩ := Array.mem_iff_getElem.1 hv
      rw [Array.getElem_extract]
      exact Array.getElem_mem _)) hmute ⟨t.size + 1, _, by rw [hu]; exact at_index rfl, rfl, by omega, rfl⟩
    refine Fin.step (hst.trans hrun) (iho _ ?_ _ _ _ _ _ _ _ _ _ _ _ _ _ rfl rfl hInv)
    have h2 := outer_c (ph := ph) (c := c) (.cR r)
    rw [hci] at h2
    simp only [cw] at h2
    omega
 | mS s =>
  obtain rfl := h.proto.isM hlt (.inl ⟨s, hci⟩)
  refine loc (ph.SStop s) (by rw [hci] at hro; exact hro) (fun k' M' g' hx => by rw [hci]; exact hx) (fun k' => by rw [hci]; rfl) (.inl rfl) (by rw [hci]; simp) fun hstop => ?_
  cases s with
  | zero =>
   obtain ⟨g', child, hsp, Mc, M', hsplit, ⟨kc, hkc⟩, km, hkm⟩ := hstop.2 (w.at d) (h.uni.holds _)
   have hrun := runT_crowd_spawn (P := ph.P) (sl := sl') hi (show stepG ph.P (0 == 0) g (w.at d) = _ from hsp)
   obtain ⟨hsz, hpr⟩ := h.proto.spawnC hci
   have hcc : c gs.size = .cR ph.n := by rw [hsz]; exact h.proto.unc (by omega)
   have hInv := h.spawns (g' := g') (child := child) (kc := kc) (km := km) (cm := .mR ph.n []) (x := { g := 0, fn := g.frame.fn, pos := g.frame.place, act := .go gs.size }) (y := { g := gs.size, fn := child.frame.fn, pos := g.frame.place, act := .start })
    ⟨rfl, rfl⟩ ⟨rfl, rfl⟩ hsplit (by rw [hci]; simp) (by rw [hcc]; simp) (fun _ => hkm) (fun _ => by rw [hcc]; exact hkc) hszle.1 hpr
   refine Fin.step (hst.trans hrun) (iho _ ?_ _ _ _ _ _ _ _ _ _ _ _ _ _ rfl rfl hInv)
   have h1 := outer_0 (ph := ph) (c := c) (.mR ph.n [])
   rw [hci] at h1
   simp only [Ph.mw] at h1
   omega
  | succ s =>
   obtain ⟨g', child, hsp, Mc, M', hsplit, ⟨kc, hkc⟩, km, hkm⟩ := hstop.2 (w.at d) (h.uni.holds _)
   have hrun := runT_crowd_spawn (P := ph.P) (sl := sl') hi (show stepG ph.P (0 == 0) g (w.at d) = _ from hsp)
   obtain ⟨hsz, hsn, hpr⟩ := h.proto.spawnW hci
   have hcc : c gs.size = .wA := by rw [hsz]; exact h.proto.uns _ (by omega) (by omega)
   have hsub : gs.size - ph.N0 = ph.n - (s + 1) := by omega
   have hInv := h.spawns (g' := g') (child := child) (kc := kc) (km := km) (cm := .mS s) (x := { g := 0, fn := g.frame.fn, pos := g.frame.place, act := .go gs.size }) (y := { g := gs.size, fn := child.frame.fn, pos := g.frame.place, act := .start })
    ⟨rfl, rfl⟩ ⟨rfl, rfl⟩ hsplit (by rw [hci]; simp) (by rw [hcc]; simp) (fun _ => hkm) (fun _ => by rw [hcc]; show Co ph.P false (ph.AStop (gs.size - ph.N0)) kc Mc child; rw [hsub]; exact hkc) hszle.1 hpr
   refine Fin.step (hst.trans hrun) (iho _ ?_ _ _ _ _ _ _ _ _ _ _ _ _ _ rfl rfl hInv)
   have h1 := outer_0 (ph := ph) (c := c) (.mS s)
   rw [hci] at h1
   simp only [Ph.mw] at h1
   omega
 | mR r got =>
  obtain rfl := h.proto.isM hlt (.inr (.inl ⟨r, got, hci⟩))
  refine loc (ph.MStop r got) (by rw [hci] at hro; exact hro) (fun k' M' g' hx => by rw [hci]; exact hx) (fun k' => by rw [hci]; rfl) (.inl rfl) (by rw [hci]; simp) fun hstop => ?_
  have hat := mStop_at r got _ _ hstop
  have hst1 := comm (show AtC ph.P (0 == 0) (mem 0) g ph.recvF (.recv true) from hat)
  by_cases hP : ∃ j, j < ph.n ∧ ph.N0 + j < gs.size ∧ c (ph.N0 + j) = .wP
  ·
   obtain ⟨j, hj, hjs, hP⟩ := hP
   have only : ∀ (j' : Nat) (g' : Goroutine), gs[j']? = some g' → offersAt g' ph.F true ≠ [] → c j' = .wP := fun j' g' hj' hx => by
    apply Classical.byContradiction
    intro hne
    exact hx (off_sendF (h.ok j' g' hj') hne)
   have shape : ∀ (j' : Nat) (g' : Goroutine), gs[j']? = some g' → c j' = .wP → ∃ j1 g1, j1 < ph.n ∧ j' = ph.N0 + j1 ∧ g' = parked (bareG g1) #[ph.sendF j1] .send ∧ ph.AStop j1 (mem j') g1 := fun j' g' hj' hx => by
    obtain ⟨j1, hj1, rfl⟩ := h.proto.isW (lt_of_some hj') (.inr (.inl hx))
    have hro1 := h.ok _ g' hj'
    rw [hx] at hro1
    obtain ⟨g1, h1, h2⟩ := hro1
    have e : ph.N0 + j1 - ph.N0 = j1 := by omega
    rw [e] at h1 h2
    exact ⟨j1, g1, hj1, rfl, h1, h2⟩
   obtain ⟨gw, hgw⟩ : ∃ gw, gs[ph.N0 + j]? = some gw := ⟨gs[ph.N0 + j], Array.getElem?_eq_getElem hjs⟩
   obtain ⟨j0, gj, vj, zj, shj, d', hj0, hgj, hrun⟩ := crowd_recv_meets_some (P := ph.P) (sl := sl') hi hst1 h.chan.F
    (by
     intro hnil
     obtain ⟨j1, g1, hj1, e1, rfl, _⟩ := shape _ _ hgw hP
     have : (ph.N0 + j, 0) ∈ partners (gs.setIfInBounds 0 Conc.ph) ph.F true := mem_partners.2 ⟨_, stand_get (by omega) hgw, by rw [offersAt_parked_send, if_pos rfl]; simp⟩
     rw [hnil] at this; cases this)
    (by
     intro j' k' hm
     obtain ⟨g', hg', hk'⟩ := mem_partners.1 hm
     rcases getElem?_stand gs _ j' g' hg' with ⟨_, rfl⟩ | ⟨hji, hg''⟩
     ·rw [offersAt_ph] at hk'; cases hk'
     ·obtain ⟨j1, g1, hj1, rfl, rfl, _⟩ := shape j' g' hg'' (only j' g' hg'' (fun e => by rw [e] at hk'; cases hk'))
      rw [Ph.sendF, offersAt_parked_send, if_pos rfl] at hk'
      exact ⟨by simpa using hk', hji, bareG g1, ph.val j1, zS, .send, hg''⟩)
   obtain ⟨j1, g1, hj1, rfl, hpe, hA⟩ := shape j0 _ hgj (only j0 _ hgj (by rw [offersAt_parked_send, if_pos rfl]; simp))
   have hcw := only _ _ hgj (by rw [offersAt_parked_send, if_pos rfl]; simp)
   obtain ⟨e1, rfl, e2⟩ := parked_eq hpe
   have e3 : vj = ph.val j1 ∧ zj = zS := by simp [Ph.sendF, scase] at e1; exact e1
   obtain ⟨rfl, rfl⟩ := e3
   have hcl : cl = false := by
    cases hcl : cl with
    | false => rfl
    | true => have := (h.proto.closed hcl).2.2 j1 hj1; rw [hcw] at this; cases this
   subst hcl
   rw [comm_ev] at hrun
   obtain ⟨u, hu, hrun⟩ := snd_var hrun
   rw [Array.empty_append] at hu
   have hjl := lt_of_some hgj
   obtain ⟨r', k1, k2, rfl, hInv⟩ := h.meetF (u := u) (gs' := (gs.setIfInBounds (ph.N0 + j1) (gj.finishComm ph.P #[ph.sendF j1] .send 0 undef false)).setIfInBounds 0 ((bareG g).finishComm ph.P #[ph.recvF] (.recv true) 0 (ph.val j1) true))
    (w' := ((w.at d).at d').setChan ph.F 0 #[] false (sF + 1) (sF + 1) false) (g1 := g1) (g2 := g) hj1 (.inr hcw) (.inl hci) hA hstop (by simp)
    (by
     rw [Array.getElem?_setIfInBounds_ne (by omega), Array.getElem?_setIfInBounds_self_of_lt hjl]
     show some (fin ph.P (bareG gj) _ _ _ _) = some (fin ph.P (bareG g1) _ _ _ _)
     rw [e2]; rfl)
    (by rw [Array.getElem?_setIfInBounds_self_of_lt (by simpa using hlt)]; rfl)
    (fun a h1 h2 => by rw [Array.getElem?_setIfInBounds_ne (by omega), Array.getElem?_setIfInBounds_ne (by omega)])
    (near_setF d' 0 #[] false _ _) (by rw [setChan_get, if_pos rfl, if_pos (show ph.F < ((w.at d).at d').heap.size from h.lt.1)]) (by rw [setChan_get, if_neg ph.apart]; rfl) (fun op hop => by
     rw [hu] at hop
     simp only [List.mem_toArray, List.mem_cons, List.not_mem_nil, or_false] at hop
     rcases hop with rfl | rfl | rfl | rfl <;> exact ⟨rfl, by simp, by simp⟩)
   refine Fin.step (hst.trans hrun) (iho _ ?_ _ _ _ _ _ _ _ _ _ _ _ _ _ rfl rfl hInv)
   have h1 := outer_0 (ph := ph) (c := upd c (ph.N0 + j1) .wB) (.mR r' (j1 :: got))
   have h2 := outer_w (c := c) hj1 .wB
   rw [upd_ne _ _ (show (0 : Nat) ≠ ph.N0 + j1 by omega), hci] at h1
   rw [hcw] at h2
   simp only [Ph.mw, ww] at h1 h2
   omega
  ·have hnil := h.sendF_nil 0 fun j hj hjs e => hP ⟨j, hj, hjs, e⟩
   have hfull := h.proto.full fun s hs => by rw [hci] at hs; cases hs
   cases cl with
   | true =>
    have hr0 : r = 0 := by
     rw [(h.proto.got r got (.inl hci)).1]
     have : ∀ j, j < ph.n → undone (c (ph.N0 + j)) = (fun _ => 0) j := fun j hj => by rw [(h.proto.closed rfl).2.2 j hj]; rfl
     rw [sumTo_congr this]
     have := sumTo_le (f := fun _ => 0) (c := 0) (j := ph.n) fun _ _ => Nat.le_refl _
     omega
    subst hr0
    have hrun := crowd_recv_closed (P := ph.P) (sl := sl') hi hst1 h.chan.F hnil
    rw [comm_ev, Array.empty_append] at hrun
    refine Fin.step (hst.trans hrun) (hDone _ _ _ _ (fin ph.P g ph.recvF (.recv true) ph.zF false) (h.finish (got := got) rfl hci hstop.2 (by simp) (by rw [Array.getElem?_setIfInBounds_self_of_lt hlt]; rfl) (fun a h1 => by rw [Array.getElem?_setIfInBounds_ne (Ne.symm h1)]) ⟨rfl, rfl⟩))
   | false =>
    have hno : NoWays (w.at d) (gs.setIfInBounds 0 Conc.ph) ph.recvF := ways_recv_none h.chan.F hnil
    obtain ⟨h1, h2⟩ := h.parks (sl := sl') (x := .mP r got) (main := true) hi rfl hat hno (by rw [hci]; simp) (by simp) ⟨g, rfl, hstop⟩ (h.proto.parkM hci rfl fun j hj e => hP ⟨j, hj, by omega, e⟩) (fun j' hj' e => by rwa [upd_ne _ _ (by omega)] at e)
    refine Fin.step (hst.trans h1) ?_
    rw [Array.append_empty]
    refine ihm _ (by rw [Array.size_setIfInBounds]; exact sub (by rw [hci]; simp [mloc])) _ _ _ _ _ _ _ _ _ _ _ _ ?_ rfl h2
    have := outer_0 (ph := ph) (c := c) (.mP r got)
    rw [hci] at this
    simp only [Ph.mw] at this
    omega
end
end Go.Ov
namespace Go.Ov
open Go.Conc
def AOk (a : Act) : Prop := ∀ d ∈ a.defers, TameT d.target
theorem okFrame_at {P : Program} {b : Frame} {a : Act} {k : List Item} (hk : b.kind = .normal) (ha : AOk a) (hx : ∀ x ∈ k, OkItem P x) : OkFrame P (b.at a k) := ⟨hx, ha, rfl, .inl hk⟩
theorem aok_put {a : Act} (h : AOk a) (dst : Option Tmp) (v : Value) : AOk (a.put dst v) := by
 cases dst <;> exact h
section
variable {P : Program} {fr fr' : Frame} {new new' : List Frame} {w0 w1 : World}
theorem lstep_of_go (hB : Bare P) (hP : OkProg P) (ok : OkFrame P fr) (oks : ∀ f ∈ new, OkFrame P f) (bot : (new.getLast?.getD fr).kind = .normal) (hp : PlainW w0) (hne : new ≠ [] ∨ fr.mode = .run) {es : Array Event}
  (h : ∀ cs, stepG P true (G fr (new ++ cs)) w0 = .go (G fr' (new' ++ cs)) w1 es) : ∃ n, LStep P fr new w0 fr' new' w1 n ∧ OkFrame P fr' ∧ (∀ f ∈ new', OkFrame P f) ∧ (new'.getLast?.getD fr').kind = .normal := by
 rcases step_kind hB hP ok oks bot hp with ⟨fr1, new1, w2, es1, n, hg, ok', oks', bot'⟩ | ⟨cases, bl, sh, w2, es1, n, hc, _, _, _⟩ | hodd | hend | ⟨hn, hm, _⟩
 ·have e := hg.here [] true
  rw [h []] at e
  simp only [GStep.go.injEq, List.append_nil] at e
  obtain ⟨e1, rfl, rfl⟩ := e
  obtain rfl : fr' = fr1 := congrArg Goroutine.frame e1
  obtain rfl : new' = new1 := congrArg Goroutine.callers e1
  exact ⟨n, lstep_go hg, ok', oks', bot'⟩
 ·have e := hc.here [] true
  rw [h []] at e
  cases e
 ·rcases hodd [] true with ⟨g, child, w, es', e⟩ | ⟨g, w, es', e, ⟨d, f, e1, _⟩, _⟩
  ·rw [h []] at e; cases e
  ·rw [h []] at e
   simp only [GStep.go.injEq] at e
   obtain ⟨rfl, _, _⟩ := e
   cases e1
 ·obtain ⟨o, w, es', e⟩ := hend [] true
  rw [h []] at e; cases e
 ·exact absurd hn (by rcases hne with x | x; exact x; exact absurd x hm)
end
section
variable {R : Row} {fr fr' : Frame} {cs new : List Frame} {w0 w1 : World}
theorem Row.Runs.go (ok : OkFrame R.P fr) (oks : ∀ f ∈ new, OkFrame R.P f) (bot : (new.getLast?.getD fr).kind = .normal) (hp : PlainW w0) (hne : new ≠ [] ∨ fr.mode = .run)
  (h : ∀ (τ : Tape) (d : Nat), ∃ fr' new' w1 es, (∀ cs, stepG R.P true (G fr (new ++ cs)) (w0.on τ d) = .go (G fr' (new' ++ cs)) w1 es) ∧
   (OkFrame R.P fr' → (∀ f ∈ new', OkFrame R.P f) → PlainW w1 → R.Runs fr' (new' ++ cs) w1)) : R.Runs fr (new ++ cs) w0 :=
 Row.Runs.step fun τ d => by
  obtain ⟨fr', new', w1, es, h1, h2⟩ := h τ d
  obtain ⟨n, hl, ok', oks', _⟩ := lstep_of_go R.bare R.okp ok oks bot (plain_on hp τ d) hne h1
  exact ⟨fr', new', w1, n, hl, h2 ok' oks' hl.plain⟩
theorem okItems_cons {P : Program} {x : Item} {k : List Item} (h : OkItem P x) (hk : ∀ x ∈ k, OkItem P x) : ∀ y ∈ x :: k, OkItem P y := by
 intro y hy
 simp only [List.mem_cons] at hy
 rcases hy with rfl | hy
 ·exact h
 ·exact hk y hy
variable {Q : Exit → Act → World → Prop} {a : Act}
theorem frame_on {fr : Frame} {cs : List Frame} {w0 : World} {τ : Tape} {d : Nat} (h : R.Runs fr cs w0) : R.Runs fr cs (w0.on τ d) := fun gs sl t q B Z w h0 hL hP hw hk =>
 h gs sl t q B Z w h0 hL hP (over_on hw w.tape w0.tape w.drawn w0.drawn) hk
def Ends2 (N Rt : Act → World → Prop) : Exit → Act → World → Prop
 | .normal, a, w => N a w
 | .ret, a, w => Rt a w
 | _, _, _ => False
def Row.Calls (R : Row) (f : FuncId) (args : Array Value) (w0 : World) (K : Value → World → Prop) : Prop :=
 PlainW w0 → ∀ cs : List Frame, (∀ fr v w1, fr.fn = f → fr.leaving R.P w1 (.returned v) → OkFrame R.P fr → PlainW w1 → K v w1 → R.Runs fr cs w1) → R.Runs (Frame.enter R.P f args .normal) cs w0
theorem enter_okf (f : FuncId) (args : Array Value) : OkFrame R.P (Frame.enter R.P f args .normal) := enter_ok R.okp f args (.inl rfl)
end
end Go.Ov
namespace Go.Ov
open Go.Conc
open Go.ConcN (sumTo upd sumTo_upd upd_ne upd_same)
theorem results_over {P : Program} {fn : Func} {tmps : Array Value} {w0 : World} {v : Value} (hp : PlainW w0) (h : (results fn tmps).run P w0 = .ok v w0) :
  ∃ es, (∀ e ∈ es, MildEv e) ∧ ∀ (Z : Nat → Prop) (w : World), Over Z w w0 → ∃ w', (results fn tmps).runT P w #[] = (.ok v w', es) ∧ Over Z w' w0 ∧ w'.tape = w.tape ∧ w'.drawn = w.drawn ∧ Keeps w w0 w' w0 := by
 have hT : ((results fn tmps).runT P w0 #[]).1 = .ok v w0 := by rw [Sem.runT_eq]; exact h
 rcases run_over (results fn tmps) (results_mild fn tmps) w0 #[] hp with hr | ⟨t, w1, es, n, r⟩
 ·rw [hT] at hr; exact hr.elim
 ·have e := congrArg Prod.fst r.run
  rw [hT] at e
  cases t with
  | pan x => simp [Tag.res] at e
  | ok x =>
   simp only [Tag.res, Result.ok.injEq] at e
   obtain ⟨rfl, rfl⟩ := e
   have hn : n = 0 := by have := r.drawn; omega
   subst hn
   refine ⟨es, fun e he => (r.evs e he).resolve_left (by simp), fun Z w hw => ?_⟩
   obtain ⟨w', h1, h2, h3, h4, h5⟩ := r.over Z w hw (fun j q hj => by omega)
   exact ⟨w', h1, h2, h3, by simpa using h4, fun b hb => h5 b hb⟩
section
variable {R : Row} {fr : Frame} {cs : List Frame} {w0 : World} {a : Act} {ops : Array Oper}
theorem Row.leave {c : Frame} {f : Frame} {v : Value} (hl : f.leaving R.P w0 (.returned v)) (ok : OkFrame R.P f) (okc : OkFrame R.P c) (hc : c.kind = .normal) (hp : PlainW w0) (h : R.Runs (c.finish v) cs w0) : R.Runs f (c :: cs) w0 := by
 obtain ⟨hm, hd, hk, fn, hf, hr⟩ := hl
 obtain ⟨es, he, hover⟩ := results_over hp hr
 refine Row.Runs.go (new := [c]) ok (by simpa using okc) (by simpa using hc) hp (.inl (by simp)) fun τ d => ⟨c.finish v, [], w0.on τ d, seen R.P f.fn es, fun cs => ?_, fun _ _ _ => frame_on h⟩
 obtain ⟨w', h1, h2, h3, h4, _⟩ := hover (fun _ => False) (w0.on τ d) (over_on (over_self w0) τ w0.tape d w0.drawn)
 have ew : w' = w0.on τ d := over_eq h2 h3 h4
 subst ew
 rw [stepG_unw (by rw [hm]; simp)]
 rw [Sem.runT_eq] at h1
 obtain ⟨h1a, h1b⟩ := Prod.mk.injEq .. ▸ h1
 simp [unwind, hd, hm, hf, h1a, h1b, doReturn, hk, GStep.after]
 rfl
theorem wp_ops_till {P : Program} {ops : Array Oper} {N : Act → World → Prop} (l2 : List Nat) : ∀ (l1 : List Nat) (a : Act) (w : World), wpOps P ops (Ends2 N fun _ _ => False) l1 a w → ∀ (b : Frame) (k : List Item) (cs : List Frame),
  ∃ a' w', N a' w' ∧ Steps P (lone (b.at a (.inRegion ops (l1 ++ l2) :: k)) cs w) (lone (b.at a' (.inRegion ops l2 :: k)) cs w')
 | [], a, w, h, b, k, cs => ⟨a, w, h, .refl _ _⟩
 | i :: l1, a, w, h, b, k, cs => by
  have ih := wp_ops_till (P := P) (ops := ops) (N := N) l2 l1
  simp only [wpOps] at h
  rw [List.cons_append]
  have more : ∀ {a1 : Act} {w1 : World}, wpOps P ops (Ends2 N fun _ _ => False) l1 a1 w1 → Steps P (lone (b.at a (.inRegion ops (i :: (l1 ++ l2)) :: k)) cs w) (lone (b.at a1 (.inRegion ops (l1 ++ l2) :: k)) cs w1) →
    ∃ a' w', N a' w' ∧ Steps P (lone (b.at a (.inRegion ops (i :: (l1 ++ l2)) :: k)) cs w) (lone (b.at a' (.inRegion ops l2 :: k)) cs w') := fun h1 hs =>
   have ⟨a', w', hn, hs'⟩ := ih _ _ h1 b k cs
   ⟨a', w', hn, hs.trans hs'⟩
  cases ho : ops[i]? with
  | none =>
   rw [ho] at h
   have hs := step_op_skip (P := P) (b := b) (a := a) (k := k) (cs := cs) (w := w) (ops := ops) (i := i) (rest := l1 ++ l2) (by rw [ho]; rfl)
   rw [ho] at hs
   exact more h (.one hs)
  | some o =>
   rw [ho] at h
   dsimp only at h
   have hfin : ∀ v, (b.at a (.inRegion ops (i :: (l1 ++ l2)) :: k)).finish v = b.at (a.put o.dst v) (.inRegion ops (l1 ++ l2) :: k) := fun v => by
    rw [Frame.finish_at, ho]; rfl
   cases hw : Region.wanted o (yielded ops a.tmps) with
   | false =>
    rw [hw] at h
    have hs := step_op_skip (P := P) (b := b) (a := a) (k := k) (cs := cs) (w := w) (ops := ops) (i := i) (rest := l1 ++ l2) (by rw [ho]; exact hw)
    rw [ho] at hs
    exact more h (.one hs)
   | true =>
    rw [hw] at h
    have hg := stepG_op (P := P) (b := b) (k := k) (cs := cs) (w := w) (rest := l1 ++ l2) ho hw
    rcases h with h | ⟨_, _, _, hf⟩
    rotate_left
    ·exact hf.elim
    unfold Oper.wp at h
    cases hr : (execOp a.eval o).run P w with
    | ok nx w' =>
     rw [hr] at h
     cases nx with
     | value v =>
      refine more (a1 := a.put o.dst v) (w1 := w') h (.one (step_lone_go ?_))
      rw [hg, ← hfin]; simp [stepG.apply, hr]
     | skip =>
      refine more (a1 := a.put o.dst undef) (w1 := w') h (.one (step_lone_go ?_))
      rw [hg, ← hfin]; simp [stepG.apply, hr]
     | defer d =>
      refine more (a1 := ({ a with defers := d :: a.defers } : Act).put o.dst undef) (w1 := w') h (.one (step_lone_go ?_))
      have e := Frame.finish_at b { a with defers := d :: a.defers } ops i (l1 ++ l2) k undef
      rw [ho] at e
      rw [hg]
      simp only [stepG.apply, Sem.runT_eq, hr, GStep.bare_after]
      exact congrArg (fun fr => GStep.go { frame := fr, callers := cs, status := .running, dying := none } w') e
     | enter f args =>
      obtain ⟨e, w'', fr, hR, hsteps, _, hleave⟩ := h (b.at a (.inRegion ops (i :: (l1 ++ l2)) :: k) :: cs)
      cases e with
      | returned v =>
       refine more (a1 := a.put o.dst v) (w1 := w'') hR (.head (m₁ := lone (Frame.enter P f args .normal) (b.at a (.inRegion ops (i :: (l1 ++ l2)) :: k) :: cs) w') (step_lone_go ?_) (Steps.trans hsteps (.one ?_)))
       ·rw [hg]; simp [stepG.apply, hr, Frame.at]
       ·rw [← hfin]; exact step_leave_returned hleave
      | panicked chain => exact hR.elim
      | outgrown => obtain ⟨_, _, x⟩ := hR; exact x.elim
     | row rw' args =>
      obtain ⟨v, w'', hR, hsteps⟩ := h (b.at a (.inRegion ops (i :: (l1 ++ l2)) :: k)) cs
      refine more (a1 := a.put o.dst v) (w1 := w'') hR (.head (m₁ := lone (Frame.ofRow P rw' args .normal) (b.at a (.inRegion ops (i :: (l1 ++ l2)) :: k) :: cs) w') (step_lone_go ?_) ?_)
      ·rw [hg]; simp [stepG.apply, hr, Frame.at]
      ·rw [← hfin]; exact hsteps
     | _ => exact h.elim
    | halt x w' =>
     rw [hr] at h
     cases x <;> exact h.elim
theorem okItem_region {P : Program} {l : List Nat} (h : (ops.all fun o => okOp P o.op) = true) : OkItem P (.inRegion ops l) := h
theorem Row.ends {f : Frame} {v : Value} (hl : f.leaving R.P w0 (.returned v)) (hi : R.P.inits.idxOf? f.fn = none) (hp : PlainW w0) (hpost : ∀ (Z : Nat → Prop) (w : World), Over Z w w0 → Keeps R.W R.W0 w w0 → R.Post v w) : R.Runs f [] w0 := by
 obtain ⟨hm, hd, hk, fn, hf, hr⟩ := hl
 obtain ⟨es, he, hover⟩ := results_over hp hr
 intro gs sl t q B Z w h0 hL hP hw hkp
 generalize hM : sumTo gs.size q = M
 induction M using Nat.strongRecOn generalizing gs sl t q w with
 | _ M ih =>
  obtain ⟨i, g, d, sl', hi', hg, hst⟩ := crowd_pick (P := R.P) (w := w) (sl := sl) (hL.awake h0 rfl) ⟨0, _, h0, rfl⟩
  rcases Nat.eq_zero_or_pos i with rfl | hpos
  ·obtain rfl : g = G f [] := by rw [h0] at hi'; exact (Option.some.inj hi').symm
   obtain ⟨w', h1, h2, h3, h4, h5⟩ := hover Z (w.at d) (over_on hw w.tape w0.tape d w0.drawn)
   rw [Sem.runT_eq] at h1
   obtain ⟨h1a, h1b⟩ := Prod.mk.injEq .. ▸ h1
   have hend : stepG R.P (0 == 0) (G f []) (w.at d) = .ended (.done v) w' (seen R.P f.fn es) := by
    show stepG R.P true (G f []) (w.at d) = _
    rw [stepG_unw (by rw [hm]; simp)]
    simp [unwind, hd, hm, hf, h1a, h1b, doReturn, hk, GStep.after, hi]
   have hrunT := runT_many_ended (P := R.P) (sl := sl') (i := 0) h0 hend
   obtain ⟨B', hP'⟩ := hP.still (still_ofEvents (fn := (G f []).frame.fn) (pos := (G f []).frame.place) fun e he' => he e (seen_sub he'))
   refine Fin.last (hst.trans hrunT) ⟨v, rfl, hpost Z w' h2 (hkp.trans (fun b hb => h5 b hb)), hP'.clean, hP'.over, ⟨fun x hx => ?_, rfl⟩, fun j x hx hj => ?_⟩
   ·obtain ⟨j, hj⟩ := List.mem_iff_getElem?.1 hx
    rw [List.getElem?_drop] at hj
    exact ⟨_, (hL.old (1 + j) x (by omega) (by simpa [crowd] using hj)).leaves⟩
   ·have hq := hL.old j x (by omega) hx
    refine ⟨q j, ?_⟩
    have e : (t ++ MemOp.ofEvents 0 (G f []).frame.fn (G f []).frame.place (seen R.P f.fn es)).deaf j (t ++ MemOp.ofEvents 0 (G f []).frame.fn (G f []).frame.place (seen R.P f.fn es)).size = Deaf t j :=
     Deaf_other t (g := j) (g' := 0) (by omega) _ (fun op hop => by obtain ⟨e, _, rfl⟩ := Go.Conc.mem_ofEvents hop; rfl)
    rw [e]
    exact hq.hears _
  ·obtain ⟨gs', ops, q', h1, h2, h3, h4, h5, h6⟩ := leaver_slips (w := w.at d) (sl := sl') hL hP h0 rfl hpos hi' hg
   exact Fin.step (hst.trans h1) (ih _ (by rw [h5]; omega) gs' sl' _ q' (w.at d) h2 h3 h4 (over_on hw w.tape w0.tape d w0.drawn) hkp rfl)
theorem Row.fin {f : FuncId} {args : Array Value} {K : Value → World → Prop} {Z : Nat → Prop} (h : R.Calls f args R.W0 K) (hp : PlainW R.W0) (hw : Over Z R.W R.W0) (hi : R.P.inits.idxOf? f = none)
  (hpost : ∀ v w1, K v w1 → ∀ (Z : Nat → Prop) (w : World), Over Z w w1 → Keeps R.W R.W0 w w1 → R.Post v w) : Fin R.P R.Post (solo (G (Frame.enter R.P f args .normal) []) R.W) #[] :=
 h hp [] (fun fr v w1 hfn hl ok hp1 hK => Row.ends hl (hfn ▸ hi) hp1 (hpost v w1 hK)) #[G (Frame.enter R.P f args .normal) []] none #[] (fun _ => 0) 0 Z R.W rfl (leavers_one R.P _) past_nil hw (fun b hb => ⟨hb, rfl⟩)
end
end Go.Ov
namespace Go.Ov
open Go.Conc
open Go.ConcN (sumTo upd sumTo_upd upd_ne upd_same sumTo_congr sumTo_upd_out le_sumTo sumTo_le)
open Classical in
noncomputable def ghost (w' w0 : World) : World := { w' with heap := w'.heap.mapIdx fun b o => if w0.heap[b]? = some (.coro none) then .coro none else o }
open Classical in
theorem ghost_get (w' w0 : World) (b : Nat) : (ghost w' w0).heap[b]? = if w0.heap[b]? = some (.coro none) then (w'.heap[b]?).map (fun _ => .coro none) else w'.heap[b]? := by
 unfold ghost
 show (w'.heap.mapIdx _)[b]? = _
 rw [Array.getElem?_mapIdx]
 split
 ·rename_i h; simp [h]
 ·rename_i h; simp [h]
section
variable {ph : Ph} {w0 w w' : World} {M0 : Mem} {mem : Nat → Mem} {Z : Nat → Prop} {s s1 s2 : Nat} {bL : Array Value}
structure Behind (ph : Ph) (M0 : Mem) (w0 w w' w1 : World) (Z : Nat → Prop) : Prop where
 os : w1.os = w0.os
 output : w1.output = w0.output
 plain : PlainW w1
 over : Over Z w' w1
 keeps : Keeps w w0 w' w1
 size : w0.heap.size ≤ w1.heap.size
 same : ∀ b : Nat, b < w0.heap.size → b ≠ ph.F → b ≠ ph.L → ¬ Has M0 b true → w1.heap[b]? = w0.heap[b]?
 cells : ∀ (b : Nat) c e z, w'.heap[b]? = some (Obj.cells c e z) → w1.heap[b]? = some (Obj.cells c e z)
theorem behind (hw : Over Z w w0) (hp : PlainW w0) (h : ph.Hp w M0 w' mem) (hF : ∃ s, w'.heap[ph.F]? = some (.chan 0 #[] true s s false)) (hL : ∃ b s r, w'.heap[ph.L]? = some (.chan ph.n b false s r false))
  (h0F : ∀ o, w0.heap[ph.F]? = some o → o ≠ .coro none) (h0L : ∀ o, w0.heap[ph.L]? = some o → o ≠ .coro none) (h0M : ∀ b : Nat, Has M0 b true → w0.heap[b]? ≠ some (Obj.coro none)) : ∃ w1, Behind ph M0 w0 w w' w1 Z := by
 have hgone : ∀ b : Nat, w0.heap[b]? = some (Obj.coro none) → w'.heap[b]? = w.heap[b]? := fun b hb => by
  refine h.keep b (by rw [hw.size]; exact lt_of_some hb) (fun e => h0F _ (e ▸ hb) rfl) (fun e => h0L _ (e ▸ hb) rfl) fun e => h0M b e hb
 have hother : ∀ b : Nat, w0.heap[b]? ≠ some (Obj.coro none) → ∀ o, w'.heap[b]? = some o → ¬ Bad o ∧ o ≠ .coro none := fun b hb o ho => by
  by_cases e1 : b = ph.F
  ·obtain ⟨s, hs⟩ := hF
   rw [e1, hs] at ho
   obtain rfl := Option.some.inj ho
   exact ⟨fun x => x, by simp⟩
  by_cases e2 : b = ph.L
  ·obtain ⟨x, s, r, hs⟩ := hL
   rw [e2, hs] at ho
   obtain rfl := Option.some.inj ho
   exact ⟨fun x => x, by simp⟩
  rcases Nat.lt_or_ge b w.heap.size with hlt | hge
  ·by_cases hm : Has M0 b true
   ·obtain ⟨c, e, z, rfl⟩ := h.mine b hm o ho
    exact ⟨fun x => x, by simp⟩
   ·rw [h.keep b hlt e1 e2 hm] at ho
    rcases hw.at' b with x | ⟨_, x, _⟩
    ·rw [x] at ho
     exact ⟨hp b o ho, fun e => hb (e ▸ ho)⟩
    ·exact absurd x hb
  ·obtain ⟨c, e, z, rfl⟩ := h.fresh b hge o ho
   exact ⟨fun x => x, by simp⟩
 refine ⟨ghost w' w0, h.os.trans hw.os, h.output.trans hw.output, fun b o ho => ?_, ⟨?_, rfl, rfl, fun b hb => ?_, fun b hb => ?_⟩, fun b hb => ?_, ?_, fun b h1 h2 h3 h4 => ?_, fun b c e z hb => ?_⟩
 ·rw [ghost_get] at ho
  split at ho
  ·obtain ⟨_, _, rfl⟩ := Option.map_eq_some_iff.1 ho
   exact fun x => x
  ·rename_i hx; exact (hother b hx o ho).1
 ·show w'.heap.size = (w'.heap.mapIdx _).size; simp
 ·rw [ghost_get]
  split
  ·rename_i hx
   rw [hgone b hx, hw.out b hb, hx]; rfl
  ·rfl
 ·rw [ghost_get]
  split
  ·rename_i hx
   rcases hw.inn b hb with ⟨_, o, ho, hbad⟩ | ⟨_, x⟩
   ·exact .inl ⟨by rw [hgone b hx, ho]; rfl, o, by rw [hgone b hx]; exact ho, hbad⟩
   ·exact absurd hx x
  ·rename_i hx
   exact .inr ⟨rfl, fun e => (hother b hx _ e).2 rfl⟩
 ·rw [ghost_get] at hb
  split at hb
  ·rename_i hx; exact ⟨hx, hgone b hx⟩
  ·rename_i hx; exact absurd rfl (hother b hx _ hb).2
 ·show w0.heap.size ≤ (w'.heap.mapIdx _).size
  rw [Array.size_mapIdx, ← hw.size]; exact h.size
 ·rw [ghost_get]
  split
  ·rename_i hx
   obtain ⟨o, ho⟩ : ∃ o, w'.heap[b]? = some o := ⟨_, Array.getElem?_eq_getElem (by have := h.size; rw [hw.size] at this; omega)⟩
   rw [ho, hx]; rfl
  ·rename_i hx
   rw [h.keep b (by rw [hw.size]; exact h1) h2 h3 h4]
   rcases hw.at' b with x | ⟨_, x, _⟩
   ·exact x
   ·exact absurd x hx
 ·rw [ghost_get]
  split
  ·rename_i hx
   exfalso
   rw [hgone b hx] at hb
   rcases hw.at' b with x | ⟨_, _, o, ho, hbad⟩
   ·rw [x, hx] at hb; cases hb
   ·rw [ho] at hb
    obtain rfl := Option.some.inj hb
    exact hbad
  ·exact hb
end
structure PhT where
 P : Program
 n : Nat
 F : Nat
 L : Nat
 val : Nat → Value
 zF : Value
 zL : Value
 Exit : Mem → Goroutine → Prop
 apart : F ≠ L
def PhT.ph (x : PhT) (N0 : Nat) (h : 0 < N0) : Ph := ⟨x.P, N0, x.n, x.F, x.L, x.val, x.zF, x.zL, x.Exit, h, x.apart⟩
section
variable {R : Row} {fr : Frame} {cs : List Frame} {w0 : World}
theorem Row.phase (x : PhT) (hP : x.P = R.P) (M0 : Mem) (hp : PlainW w0) (hF : w0.heap[x.F]? = some (.chan 0 #[] false 0 0 false)) (hL : w0.heap[x.L]? = some (.chan x.n #[] false 0 0 false)) (hM : Holds M0 w0) (hMc : ∀ b o r, (b, o, r) ∈ M0 → ∃ c e z, o = .cells c e z)
  (hco : ∀ N0 h, ∃ k, Co x.P true ((x.ph N0 h).SStop x.n) k M0 (G fr cs))
  (hex : ∀ M g, x.Exit M g → ∃ fr', g = G fr' cs ∧ (∀ b o r, (b, o, r) ∈ M → ∃ c e z, o = .cells c e z) ∧
   ∀ w1, PlainW w1 → w1.os = w0.os → w1.output = w0.output → Holds M w1 → w0.heap.size ≤ w1.heap.size → (∀ b, b < w0.heap.size → b ≠ x.F → b ≠ x.L → ¬ Has M0 b true → w1.heap[b]? = w0.heap[b]?) → R.Runs fr' cs w1) : R.Runs fr cs w0 := by
 intro gs sl t q B Z w h0 hLv hPast hw hk
 obtain ⟨P, n, F, L, val, zF, zL, Exit, apart⟩ := x
 dsimp only at hP hF hL hco hex
 subst hP
 have hN : 0 < gs.size := lt_of_some h0
 obtain ⟨k0, hk0⟩ := hco gs.size hN
 have hFr : w.heap[F]? = some (.chan 0 #[] false 0 0 false) := hw.get hF (by simp)
 have hLr : w.heap[L]? = some (.chan n #[] false 0 0 false) := hw.get hL (by simp)
 have hMr : Holds M0 w := fun b o r hb => hw.get (hM b o r hb) (by obtain ⟨c, e, z, rfl⟩ := hMc b o r hb; simp)
 have hnF : ∀ r, ¬ Has M0 F r := fun r ⟨o, ho⟩ => by
  have := hM F o r ho
  rw [hF] at this
  obtain ⟨c, e, z, rfl⟩ := hMc F o r ho
  cases this
 have hnL : ∀ r, ¬ Has M0 L r := fun r ⟨o, ho⟩ => by
  have := hM L o r ho
  rw [hL] at this
  obtain ⟨c, e, z, rfl⟩ := hMc L o r ho
  cases this
 let ph : Ph := PhT.ph ⟨R.P, n, F, L, val, zF, zL, Exit, apart⟩ gs.size hN
 let c : Nat → Cls := fun i => if i = 0 then .mS n else if i < gs.size then .lv else if i < gs.size + n then .wA else .cR n
 let k : Nat → Nat := fun i => if i = 0 then k0 else q i
 let mem : Nat → Mem := fun i => if i = 0 then M0 else []
 have c0 : c 0 = .mS n := by simp [c]
 have cw : ∀ j, j < n → c (gs.size + j) = .wA := fun j hj => by
  show (if gs.size + j = 0 then Cls.mS n else if gs.size + j < gs.size then .lv else if gs.size + j < gs.size + n then .wA else .cR n) = _
  rw [if_neg (by omega), if_neg (by omega), if_pos (by omega)]
 have cn : c (gs.size + n) = .cR n := by
  show (if gs.size + n = 0 then Cls.mS n else if gs.size + n < gs.size then .lv else if gs.size + n < gs.size + n then .wA else .cR n) = _
  rw [if_neg (by omega), if_neg (by omega), if_neg (by omega)]
 have m0 : mem 0 = M0 := by simp [mem]
 have mj : ∀ i, i ≠ 0 → mem i = [] := fun i hi => by simp [mem, hi]
 have known : ∀ i a, touchAt t i = some a → a.loc.isMemory = true → Knows t 0 i := fun i a ha hm => (hPast.known i a ha hm).resolve_right fun x => x.1
 have ismem : ∀ {l : Loc} {b : Nat}, l.at b → l.isMemory = true := fun {l b} hl => by cases l <;> first | rfl | exact hl.elim
 have inM : ∀ {i b r}, Has (mem i) b r → i = 0 ∧ Has M0 b r := fun {i b r} hb => by
  by_cases hi : i = 0
  ·subst hi; rw [m0] at hb; exact ⟨rfl, hb⟩
  ·rw [mj i hi] at hb; obtain ⟨o, ho⟩ := hb; simp at ho
 have hInv : ph.Inv w M0 gs w t c k mem false 0 0 0 #[] := by
  refine ⟨⟨hPast.clean, fun i b o r hb => ?_, fun i j hij => ⟨fun b hb ⟨r, hr⟩ => hij ((inM hb).1.trans (inM hr).1.symm), fun b hb ⟨r, hr⟩ => hij ((inM hr).1.trans (inM hb).1.symm)⟩, fun i => ⟨fun ⟨r, hr⟩ => hnF r (inM hr).2, fun ⟨r, hr⟩ => hnL r (inM hr).2⟩,
    fun i b r hb i' a ha hab _ => ?_, fun i hi i' a b ha hab _ => ?_, fun i hi => ?_, fun i hi => ?_⟩, fun i g hg => ?_, hLv.above, ?_, ⟨hFr, hLr, by simp⟩, ⟨fun i a ha hm => .inl (known i a ha hm), fun j hj hl => ?_, fun i hi => by omega, (fun e => by cases e), fun _ i a ha hF => known i a ha (ismem hF), fun hz => absurd hz (by show ¬ gs.size + n < gs.size; omega)⟩,
   ⟨rfl, rfl, Nat.le_refl _, fun _ _ _ _ _ => rfl, fun b hb o ho => ?_, fun b hb o ho => ?_, fun i b hb => .inl (inM hb).2, ⟨lt_of_some hFr, lt_of_some hLr⟩, ⟨hnF true, hnL true⟩⟩⟩
  ·have hx := inM (i := i) (b := b) (r := r) ⟨o, hb⟩
   rw [hx.1, m0] at hb
   exact hMr b o r hb
  ·rw [(inM hb).1]; exact known i' a ha (ismem hab)
  ·rcases hi with rfl | ⟨h1, h2, _⟩
   ·exact known i' a ha (ismem hab)
   ·exact absurd h2 (by show ¬ i < gs.size; exact Nat.not_lt.2 h1)
  ·rcases hi with rfl | ⟨h1, h2, _⟩
   ·exact hPast.hears
   ·exact absurd h2 (by show ¬ i < gs.size; exact Nat.not_lt.2 h1)
  ·exact mj i fun e => hi (.inl e)
  ·by_cases hi : i = 0
   ·subst hi
    rw [h0] at hg
    obtain rfl := Option.some.inj hg
    rw [c0, m0]
    show Co R.P true _ (k 0) M0 _
    have : k 0 = k0 := by simp [k]
    rw [this]
    exact hk0
   ·have hlt := lt_of_some hg
    have e1 : c i = .lv := by simp [c, hi, hlt]
    have e2 : k i = q i := by simp [k, hi]
    rw [e1, e2]
    exact hLv.old i g (by omega) hg
  ·refine ⟨.inl ⟨n, c0, Nat.le_refl _, ?_⟩, fun i h1 h2 => ?_, fun j hj => .inl (cw j hj), fun j hj _ => cw j hj, .inl ⟨n, cn, by show 0 + n = n; omega, rfl⟩, fun _ => cn, fun r got hg => ?_, fun s hs j hj => ?_, rfl, ?_, fun r got hg => ?_⟩
   ·show gs.size = gs.size + (n - n); omega
   ·have h2' : i < gs.size := h2
    simp [c, h2', Nat.ne_of_gt h1]
   ·rw [c0] at hg; rcases hg with hg | hg <;> cases hg
   ·have : c (ph.N0 + j) = .wA := cw j hj
    rw [this]; rfl
   ·have : sumTo n (fun j => lvn (c (gs.size + j))) = sumTo n (fun _ => 0) := sumTo_congr fun j hj => by rw [cw j hj]; rfl
    show 0 = sumTo n (fun j => lvn (c (gs.size + j)))
    rw [this]
    have := sumTo_le (f := fun _ => 0) (c := 0) (j := n) fun _ _ => Nat.le_refl _
    omega
   ·rw [c0] at hg; cases hg
  ·have : c (ph.N0 + j) = .wA := cw j hj
   rw [this] at hl; cases hl
  ·exact absurd (lt_of_some ho) (by omega)
  ·obtain ⟨o', ho'⟩ := hb
   rw [hMr b o' true ho'] at ho
   obtain rfl := Option.some.inj ho
   exact hMc b _ true ho'
 refine Ph.phase (ph := ph) (w0 := w) (M0 := M0) ?_ _ _ gs w sl t c k mem false 0 0 0 #[] rfl rfl hInv
 intro gs' w' sl' t' g hD
 obtain ⟨M, hEx, hMw⟩ := hD.exit
 obtain ⟨fr', rfl, hMcells, hrun⟩ := hex M g hEx
 obtain ⟨q', hLv'⟩ := hD.leavers
 obtain ⟨B', hPast'⟩ := hD.past
 obtain ⟨mem', hHp⟩ := hD.hp
 obtain ⟨w1, hb⟩ := behind hw hp hHp hD.F hD.L (fun o ho e => by
   rw [show ph.F = F from rfl, hF] at ho; rw [← Option.some.inj ho] at e; cases e)
  (fun o ho e => by
   rw [show ph.L = L from rfl, hL] at ho; rw [← Option.some.inj ho] at e; cases e)
  (fun b ⟨o, ho⟩ e => by
   rw [hM b o true ho] at e
   obtain ⟨c, e', z, rfl⟩ := hMc b o true ho
   cases e)
 exact hrun w1 hb.plain hb.os hb.output (fun b o r hbM => by
  obtain ⟨c, e, z, rfl⟩ := hMcells b o r hbM
  exact hb.cells b c e z (hMw b _ r hbM)) hb.size hb.same gs' sl' t' q' B' Z w' hD.at0 hLv' hPast' hb.over (hk.trans hb.keeps)
end
end Go.Ov
namespace Go.Ov
open Go.Conc Go.Proofs
section
variable {F L : Nat} {i x v : Int} {nf bf : Value} {off : Option Int} {bF bi bn ba bL : Nat} {M : Mem} {main : Bool} {St : Mem → Goroutine → Prop} {n : Nat} {b : Frame} {k : List Item} {cs : List Frame} {rest : List Nat}
theorem at_send118 (hb : b.kind ≠ .early) : AtC Try.prog main M (G (b.at (tmW F i v x nf bf bF bi bn ba bL true true true true true true) (.inRegion ops118 [6] :: k)) cs) (scase F (.agg #[.int .i64 i, .int .i64 v]) zS) .send := by
 refine ⟨rfl, fun w hw => ?_⟩
 have h := stepG_comm (P := Try.prog) (main := main) (b := b) (a := tmW F i v x nf bf bF bi bn ba bL true true true true true true) (k := k) (cs := cs) (w := w) (ops := ops118) (i := 6) (rest := []) (cases := #[scase F (.agg #[.int .i64 i, .int .i64 v]) zS]) (blocking := true) (shape := .send) (w' := w) rfl rfl hb rfl
 rw [h]
 have e : listed Try.prog b.fn (tmW F i v x nf bf bF bi bn ba bL true true true true true true) (ops118[6]) w = #[] := listed_nil (by rfl)
 exact congrArg _ e
theorem fin_send118 : fin Try.prog (G (b.at (tmW F i v x nf bf bF bi bn ba bL true true true true true true) (.inRegion ops118 [6] :: k)) cs) (scase F (.agg #[.int .i64 i, .int .i64 v]) zS) .send undef false = G (b.at (tmW F i v x nf bf bF bi bn ba bL true true true true true true) (.inRegion ops118 [] :: k)) cs := by
 have e : (b.at (tmW F i v x nf bf bF bi bn ba bL true true true true true true) (.inRegion ops118 [6] :: k)).finish undef = b.at (tmW F i v x nf bf bF bi bn ba bL true true true true true true) (.inRegion ops118 [] :: k) := by
  rw [Frame.finish_at]; rfl
 show ({ G (b.at _ _) cs with frame := (b.at (tmW F i v x nf bf bF bi bn ba bL true true true true true true) (.inRegion ops118 [6] :: k)).finish undef, status := .running, offers := none } : Goroutine) = _
 rw [e]; rfl
def root (P : Program) : Frame := { (default : Frame) with fn := P.funcs.size, defers := [], mode := .panicking [goexitEntry] }
def baseD (f : FuncId) : Frame := { (default : Frame) with fn := f, kind := .deferred }
theorem step_born (f : FuncId) (fn : Func) (cap : Array Value) (hf : Try.prog.funcs[f]? = some fn) (hname : (fn.name == "runtime.NumGoroutine") = false) (hb : fn.body.isNone = false) (w : World) :
  stepG Try.prog main (born Try.prog { target := .fn (.func f) cap, args := #[] }) w = .go (G (Frame.enter Try.prog f cap .deferred) [root Try.prog]) w := by
 have h1 : ¬ fn.name = "runtime.NumGoroutine" := by simpa using hname
 have h2 : ¬ fn.body = none := by cases hx : fn.body <;> simp_all
 simp [born, stepG, unwind, callDeferred, invoke, callFunc, hf, h1, h2, seen_none, GStep.after, G, root]
theorem quits_root : QuitsD Try.prog 1 0 (G (root Try.prog) []) := by
 refine QuitsD.ctl rfl (g' := { G (root Try.prog) [] with status := .finished }) (fun w => ?_) ⟨rfl, rfl⟩
 have hc : (root Try.prog).catches Try.prog = false := by simp [Frame.catches, root]; rfl
 rw [stepG_unw (by simp [root])]
 show unwind Try.prog false (root Try.prog) [] none w = _
 unfold unwind
 simp only [hc]
 rfl
theorem quits_leave {f : FuncId} {fn : Func} {a : Act} {todo : List Item} (hd : a.defers = []) (hf : Try.prog.funcs[f]? = some fn) (hr : fn.results = #[]) : QuitsD Try.prog 2 0 (G { (baseD f).at a todo with mode := .returning } [root Try.prog]) := by
 refine QuitsD.ctl rfl (g' := G (root Try.prog) []) (fun w => ?_) quits_root
 have h1 := results_none hr a.tmps Try.prog w
 have h2 := events_results_none (P := Try.prog) (w := w) hr a.tmps #[]
 have h3 : (results fn a.tmps).runT Try.prog w #[] = (.ok (.tuple #[]) w, #[]) := by rw [Sem.runT_eq, h1, h2]
 rw [stepG_unw (by simp)]
 show unwind Try.prog false { (baseD f).at a todo with mode := .returning } [root Try.prog] none w = _
 unfold unwind
 simp only [Frame.at, hd, baseD, hf, h3, seen_none, GStep.after]
 rfl
def tmB (F L : Nat) (i v x : Int) (nf bf : Value) (bF bi bn ba bL : Nat) : Act := { tmps := #[ptr bF, ptr bi, ptr bn, ptr ba, ptr bL, .chan (some F), .int .i64 i, nf, .agg #[.int .i64 x, bf], .int .i64 v, .agg #[.int .i64 i, .int .i64 v], .chan (some L)], defers := [] }
noncomputable def opsB : Array Oper :=
 #[⟨some 11, .load 152 (.tmp 4), 152, "bold.go:177", #[], none⟩,
  ⟨none, .send (.tmp 11) (.const (.bool true)), 0, "bold.go:177", #[⟨0, .data⟩], none⟩]
theorem bstop118 {ph : Ph} (hP : ph.P = Try.prog) : ph.BStop M (G ((baseD 118).at (tmB F ph.L i v x nf bf bF bi bn ba bL) [.inRegion opsB [1]]) [root Try.prog]) := by
 unfold Ph.BStop
 rw [hP]
 refine ⟨⟨rfl, fun w hw => ?_⟩, 4, ?_⟩
 ·have h := stepG_comm (P := Try.prog) (main := false) (b := baseD 118) (a := tmB F ph.L i v x nf bf bF bi bn ba bL) (k := []) (cs := [root Try.prog]) (w := w) (ops := opsB) (i := 1) (rest := []) (cases := #[scase ph.L (.bool true) zS]) (blocking := true) (shape := .send) (w' := w) rfl rfl (by decide) rfl
  rw [h]
  have e : listed Try.prog (baseD 118).fn (tmB F ph.L i v x nf bf bF bi bn ba bL) (opsB[1]) w = #[] := listed_nil (by rfl)
  exact congrArg _ e
 ·have e : ((baseD 118).at (tmB F ph.L i v x nf bf bF bi bn ba bL) [.inRegion opsB [1]]).finish undef = (baseD 118).at (tmB F ph.L i v x nf bf bF bi bn ba bL) [.inRegion opsB []] := by
   rw [Frame.finish_at]; rfl
  have e2 : fin Try.prog (G ((baseD 118).at (tmB F ph.L i v x nf bf bF bi bn ba bL) [.inRegion opsB [1]]) [root Try.prog]) ph.sendL .send undef false = G ((baseD 118).at (tmB F ph.L i v x nf bf bF bi bn ba bL) [.inRegion opsB []]) [root Try.prog] := by
   show ({ G (((baseD 118).at (tmB F ph.L i v x nf bf bF bi bn ba bL) [.inRegion opsB [1]]).finish undef) [root Try.prog] with status := .running, offers := none } : Goroutine) = _
   rw [e]; rfl
  rw [e2]
  exact QuitsD.ctl rfl (fun w => stepG_region_end) (QuitsD.ctl rfl (fun w => stepG_end) (quits_leave rfl (show Try.prog.funcs[118]? = some Try.f118 by kernel_rfl) rfl))
theorem tail118 {ph : Ph} (hP : ph.P = Try.prog) (hW : WF ph.F ph.L i x nf bf off bF bi bn ba bL M) :
  Co Try.prog false ph.BStop 3 M (G ((baseD 118).at (tmW ph.F i v x nf bf bF bi bn ba bL true true true true true true) (.inRegion ops118 [] :: [.code code118])) [root Try.prog]) := by
 refine Co.ctl hW.mc rfl (fun _ => stepG_region_end) ?_
 unfold code118
 refine Co.ctl hW.mc rfl (fun _ => stepG_region) ?_
 simp only [List.size_toArray, List.length_cons, List.length_nil, Nat.reduceAdd, Nat.zero_add, List.range, List.range.loop]
 obtain ⟨z, r, hm⟩ := hW.hL
 have hin : In M bL := ⟨r, _, hm⟩
 simp only [tmW, tm118, ptr, if_true]
 refine Co.goes rfl fun w hw => goes_oper_e rfl rfl (by decide) fun K E hK hE => ?_
 have hc := Holds.cell hw (i := 0) (v := .chan (some ph.L)) hm rfl
 go_simp
 refine hK _ _ ⟨_, Chg.refl hw hW.mc, ?_, ?_⟩
 ·intro e he
  replace he := mem_listed he
  unfold execOp at he
  simp [go_sem, hc] at he
  subst he
  exact okRead hin
 exact Co.stop (bstop118 (F := ph.F) hP) _
theorem worker118 {ph : Ph} (hP : ph.P = Try.prog) {j : Nat} (hval : ph.val j = .agg #[.int .i64 i, .int .i64 v]) (hW : WF ph.F ph.L i x nf bf off bF bi bn ba bL M) {f : FuncId} {fn : Func} {cap : Array Value} (hnf : nf = .func (.func f) #[] cap) (hf : Try.prog.funcs[f]? = some fn) (hname : (fn.name == "runtime.NumGoroutine") = false) (hbo : fn.body.isNone = false)
  (hnum : ∀ {n : Nat} {M : Mem} {c : Frame} {cs : List Frame}, WF ph.F ph.L i x nf bf off bF bi bn ba bL M → (∀ M', WF ph.F ph.L i x nf bf off bF bi bn ba bL M' → Co Try.prog false (ph.AStop j) n M' (G (c.finish (.int .i64 v)) cs)) →
   Co Try.prog false (ph.AStop j) (n + 50) M (G (Frame.enter Try.prog f (#[.agg #[.int .i64 x, bf]] ++ cap) .normal) (c :: cs))) :
  ∃ k, Co ph.P false (ph.AStop j) k M (born Try.prog { target := .fn (.func 118) #[ptr bF, ptr bi, ptr bn, ptr ba, ptr bL], args := #[] }) := by
 rw [hP]
 refine ⟨7 * 51 + 3, ?_⟩
 refine Co.ctl hW.mc rfl (step_born 118 Try.f118 _ (by kernel_rfl) rfl rfl) ?_
 have he : Frame.enter Try.prog 118 #[ptr bF, ptr bi, ptr bn, ptr ba, ptr bL] .deferred = (baseD 118).at (tmW ph.F i v x nf bf bF bi bn ba bL false false false false false false) [.code (.seq (.region 0 ops118 true) code118)] := by
  have hf : Try.prog.funcs[118]? = some Try.f118 := by kernel_rfl
  simp only [Frame.enter, hf, Option.bind_some, body118, Option.getD_some, Option.map_some]
  rfl
 rw [he]
 refine Co.ctl hW.mc rfl (fun _ => stepG_seq) ?_
 refine Co.goes rfl fun w hw => ?_
 rw [stepG_region_draw, goes_go]
 refine ⟨M, Chg.drew hw hW.mc _, by simp, ?_⟩
 have hm : Try.prog.follows .mixedOrders = true := by kernel_rfl
 simp only [Region.schedule, hm, Bool.true_or, if_true]
 exact draw118 (by decide) hnf hf hname hbo hnum (fun M' hW' => ⟨by rw [hP, Ph.sendF, hval]; exact at_send118 (by decide), 3, by
  rw [hP, Ph.sendF, hval]
  rw [fin_send118]
  exact tail118 hP hW'⟩) 7 _ false false false false false false M hW (fun x => by cases x) (fun x => by cases x) rfl
end
noncomputable def c119_2 : Array Oper := (fun {c} (_ : rg Try.f119 2 = some c) => c) rfl
noncomputable def c119_4 : Array Oper := (fun {c} (_ : rg Try.f119 4 = some c) => c) rfl
noncomputable def loop119 : Code :=
 .seq (.region 1 #[⟨some 6, .binOp .lss 3 (.tmp 5) (.tmp 4) 3, 0, "bold.go:181", #[], none⟩] false)
  (.seq (.cond (.tmp 6) .skip (.exit 0)) (.seq (.block 1 (.region 2 c119_2 false))
   (.region 3 #[⟨some 9, .binOp .add 3 (.tmp 5) (.const (.int .i64 1)) 3, 3, "bold.go:181", #[], none⟩, ⟨some 5, .move (.tmp 9), 3, "bold.go:181", #[⟨0, .data⟩], none⟩] false)))
noncomputable def begin119 : Code := .region 0 #[⟨some 3, .load 22 (.tmp 0), 22, "bold.go:181", #[], none⟩,
 ⟨some 4, .call ⟨.builtin .len, #[.tmp 3], #[22]⟩, 3, "bold.go:181", #[⟨0, .data⟩], none⟩,
 ⟨some 5, .move (.const (.int .i64 0)), 3, "bold.go:181", #[], none⟩] false
theorem body119 : Try.f119.body = some (.seq (.seq begin119 (.block 0 (.loop loop119))) (.region 4 c119_4 false)) := by kernel_rfl
section
variable {ph : Ph} {bO bL bF : Nat} {sl : Value} {M : Mem} {j6 j7 j8 j9 : Value}
def tmC (bO bL bF : Nat) (sl : Value) (n k : Nat) (j6 j7 j8 j9 : Value) : Act := { tmps := #[ptr bO, ptr bL, ptr bF, sl, .int .i64 n, .int .i64 k, j6, j7, j8, j9, undef], defers := [] }
structure CF (F L bO bL bF : Nat) (sl : Value) (M : Mem) : Prop where
 mc : MC M
 hF : ∃ z r, (bF, .cells #[.chan (some F)] 151 z, r) ∈ M
 hL : ∃ z r, (bL, .cells #[.chan (some L)] 152 z, r) ∈ M
 hO : ∃ z r, (bO, .cells #[sl] 22 z, r) ∈ M
theorem at_recv119 (hzL : ph.zL = .bool false) (k : Nat) (K : List Item) : AtC Try.prog false M (G ((baseD 119).at (tmC bO bL bF sl ph.n k j6 (.chan (some ph.L)) j8 j9) (.inRegion c119_2 [1] :: K)) [root Try.prog]) ph.recvL (.recv false) := by
 refine ⟨rfl, fun w hw => ?_⟩
 have hr : (execOp (tmC bO bL bF sl ph.n k j6 (.chan (some ph.L)) j8 j9).eval ⟨some 8, .recv 152 (.tmp 7) false, 4, "bold.go:182", #[⟨0, .data⟩], none⟩).run Try.prog w = .ok (.comm #[rcase ph.L (.bool false)] true (.recv false)) w := by
  unfold execOp
  simp [go_sem, tmC, rcase]
 have h := stepG_comm (P := Try.prog) (main := false) (b := baseD 119) (a := tmC bO bL bF sl ph.n k j6 (.chan (some ph.L)) j8 j9) (k := K) (cs := [root Try.prog]) (w := w) (ops := c119_2) (i := 1) (rest := []) (cases := #[rcase ph.L (.bool false)]) (blocking := true) (shape := .recv false) (w' := w) rfl rfl (by decide) hr
 rw [h]
 have e : listed Try.prog (baseD 119).fn (tmC bO bL bF sl ph.n k j6 (.chan (some ph.L)) j8 j9) (c119_2[1]) w = #[] := listed_nil (by
  show (execOp _ ⟨some 8, .recv 152 (.tmp 7) false, 4, "bold.go:182", #[⟨0, .data⟩], none⟩).events _ _ _ = _
  unfold execOp; simp [go_sem, tmC])
 rw [Ph.recvL, hzL]
 exact congrArg _ e
theorem close119 {ph : Ph} (hP : ph.P = Try.prog) (k : Nat) {j6 j7 j8 j9 : Value} : ph.CStop 0 M (G ((baseD 119).at { tmC bO bL bF sl ph.n k j6 j7 j8 j9 with tmps := (tmC bO bL bF sl ph.n k j6 j7 j8 j9).tmps.setIfInBounds 10 (.chan (some ph.F)) } [.inRegion c119_4 [1]]) [root Try.prog]) := by
 refine ⟨rfl, fun w hw s r hc => ?_⟩
 rw [hP]
 have hr : (execOp ({ tmC bO bL bF sl ph.n k j6 j7 j8 j9 with tmps := (tmC bO bL bF sl ph.n k j6 j7 j8 j9).tmps.setIfInBounds 10 (.chan (some ph.F)) } : Act).eval ⟨none, .call ⟨.builtin .close, #[.tmp 10], #[151]⟩, 0, "bold.go:184", #[⟨0, .data⟩], none⟩).run Try.prog w = .ok (.value (.tuple #[])) (w.setChan ph.F 0 #[] true s r false) := by
  have h := run_close_open (P := Try.prog) (w := w) #[151] 0 hc
  unfold execOp
  simp [resolve, invoke, builtin, tmC, Act.eval, h, World.setChan]
 have he : (execOp ({ tmC bO bL bF sl ph.n k j6 j7 j8 j9 with tmps := (tmC bO bL bF sl ph.n k j6 j7 j8 j9).tmps.setIfInBounds 10 (.chan (some ph.F)) } : Act).eval ⟨none, .call ⟨.builtin .close, #[.tmp 10], #[151]⟩, 0, "bold.go:184", #[⟨0, .data⟩], none⟩).events Try.prog w #[] = #[⟨.obj ph.F, false, true⟩, ⟨.obj ph.F, true, true⟩] := by
  have h := run_close_open (P := Try.prog) (w := w) #[151] 0 hc
  have h2 := events_close_open (P := Try.prog) (w := w) (es := #[]) #[151] 0 hc
  unfold execOp
  simp [resolve, invoke, builtin, tmC, Act.eval, h, h2]
 have h := stepG_value (P := Try.prog) (main := false) (b := baseD 119) (a := { tmC bO bL bF sl ph.n k j6 j7 j8 j9 with tmps := (tmC bO bL bF sl ph.n k j6 j7 j8 j9).tmps.setIfInBounds 10 (.chan (some ph.F)) }) (k := []) (cs := [root Try.prog]) (w := w) (ops := c119_4) (i := 1) (rest := []) rfl rfl (by decide) hr
 have e : listed Try.prog (baseD 119).fn ({ tmC bO bL bF sl ph.n k j6 j7 j8 j9 with tmps := (tmC bO bL bF sl ph.n k j6 j7 j8 j9).tmps.setIfInBounds 10 (.chan (some ph.F)) } : Act) ⟨none, .call ⟨.builtin .close, #[.tmp 10], #[151]⟩, 0, "bold.go:184", #[⟨0, .data⟩], none⟩ w = #[⟨.obj ph.F, false, true⟩, ⟨.obj ph.F, true, true⟩] := by
  unfold listed
  rw [he, seen_eq (by kernel_rfl) (fun e he' f => by simp at he'; rcases he' with rfl | rfl <;> simp)]
 exact ⟨_, h.trans (congrArg _ e), rfl, 4, QuitsD.ctl rfl (fun w => stepG_region_end) (QuitsD.ctl rfl (fun w => stepG_end) (quits_leave rfl (show Try.prog.funcs[119]? = some Try.f119 by kernel_rfl) rfl))⟩
theorem end119 {ph : Ph} (hP : ph.P = Try.prog) (hC : CF ph.F ph.L bO bL bF sl M) (k : Nat) {j6 j7 j8 j9 : Value} : Co Try.prog false (ph.CStop 0) 3 M (G ((baseD 119).at (tmC bO bL bF sl ph.n k j6 j7 j8 j9) [.code (.region 4 c119_4 false)]) [root Try.prog]) := by
 unfold c119_4
 refine Co.ctl hC.mc rfl (fun _ => stepG_region) ?_
 simp only [List.size_toArray, List.length_cons, List.length_nil, Nat.reduceAdd, Nat.zero_add, List.range, List.range.loop]
 obtain ⟨z, r, hm⟩ := hC.hF
 have hin : In M bF := ⟨r, _, hm⟩
 simp only [tmC, ptr]
 refine Co.goes rfl fun w hw => goes_oper_e rfl rfl (by decide) fun K E hK hE => ?_
 have hc := Holds.cell hw (i := 0) (v := .chan (some ph.F)) hm rfl
 go_simp
 refine hK _ _ ⟨_, Chg.refl hw hC.mc, ?_, ?_⟩
 ·intro e he
  replace he := mem_listed he
  unfold execOp at he
  simp [go_sem, hc] at he
  subst he
  exact okRead hin
 exact Co.stop (close119 hP k) _
theorem round119 {ph : Ph} (hP : ph.P = Try.prog) (hzL : ph.zL = .bool false) (hC : CF ph.F ph.L bO bL bF sl M) (hbig : ph.n < 1000) : ∀ (r k : Nat) (j6 j7 j8 j9 : Value), k + r = ph.n →
  Co Try.prog false (ph.CStop r) 20 M (G ((baseD 119).at (tmC bO bL bF sl ph.n k j6 j7 j8 j9) [.code loop119, .inLoop loop119, .inBlock 0, .code (.region 4 c119_4 false)]) [root Try.prog])
 | 0, k, j6, j7, j8, j9, hk => by
  have hlt : ¬ ((k : Int) < (ph.n : Int)) := by omega
  unfold loop119
  refine Co.ctl hC.mc rfl (fun _ => stepG_seq) ?_
  (refine Co.ctl hC.mc rfl (fun _ => stepG_region) ?_; simp only [List.size_toArray, List.length_cons, List.length_nil, Nat.reduceAdd, Nat.zero_add, List.range, List.range.loop])
  simp only [tmC, ptr]
  (refine Co.goes rfl fun w hw => goes_oper_e rfl rfl (by decide) fun K E hK hE => ?_; go_simp; refine hK _ _ ⟨_, Chg.refl hw hC.mc, ?_, ?_⟩; (rw [listed_nil (by unfold execOp; simp [go_sem])]; simp); clear hK hE hw K E w; try simp only [nrm, Nat.reduceAdd, Nat.reduceSub])
  refine Co.ctl hC.mc rfl (fun _ => stepG_region_end) ?_
  refine Co.ctl hC.mc rfl (fun _ => stepG_seq) ?_
  refine Co.ctl hC.mc rfl (fun _ => stepG_cond (t := false) ?_) ?_
  ·simp [Act.eval, hlt]
  simp only [Bool.false_eq_true, if_false]
  refine Co.ctl hC.mc rfl (fun _ => stepG_exit rfl) ?_
  exact Co.up (n := 3) (m := 10) (end119 hP hC k (j6 := .bool false) (j7 := j7) (j8 := j8) (j9 := j9))
 | r + 1, k, j6, j7, j8, j9, hk => by
  have hlt : (k : Int) < (ph.n : Int) := by omega
  have hK := round119 hP hzL hC hbig r (k + 1) (.bool true) (.chan (some ph.L)) (.bool true) (.int .i64 ((k + 1 : Nat) : Int)) (by omega)
  unfold loop119
  refine Co.ctl hC.mc rfl (fun _ => stepG_seq) ?_
  (refine Co.ctl hC.mc rfl (fun _ => stepG_region) ?_; simp only [List.size_toArray, List.length_cons, List.length_nil, Nat.reduceAdd, Nat.zero_add, List.range, List.range.loop])
  simp only [tmC, ptr]
  (refine Co.goes rfl fun w hw => goes_oper_e rfl rfl (by decide) fun K E hK hE => ?_; go_simp; refine hK _ _ ⟨_, Chg.refl hw hC.mc, ?_, ?_⟩; (rw [listed_nil (by unfold execOp; simp [go_sem])]; simp); clear hK hE hw K E w; try simp only [nrm, Nat.reduceAdd, Nat.reduceSub])
  refine Co.ctl hC.mc rfl (fun _ => stepG_region_end) ?_
  refine Co.ctl hC.mc rfl (fun _ => stepG_seq) ?_
  refine Co.ctl hC.mc rfl (fun _ => stepG_cond (t := true) ?_) ?_
  ·simp [Act.eval, hlt]
  simp only [if_true]
  refine Co.ctl hC.mc rfl (fun _ => stepG_skip) ?_
  refine Co.ctl hC.mc rfl (fun _ => stepG_seq) ?_
  refine Co.ctl hC.mc rfl (fun _ => stepG_block) ?_
  unfold c119_2
  (refine Co.ctl hC.mc rfl (fun _ => stepG_region) ?_; simp only [List.size_toArray, List.length_cons, List.length_nil, Nat.reduceAdd, Nat.zero_add, List.range, List.range.loop])
  obtain ⟨z, rr, hm⟩ := hC.hL
  have hin : In M bL := ⟨rr, _, hm⟩
  (refine Co.goes rfl fun w hw => goes_oper_e rfl rfl (by decide) fun K E hK hE => ?_; have hc := (Holds.cell hw (i := 0) (v := .chan (some ph.L)) hm rfl); go_simp; refine hK _ _ ⟨_, Chg.refl hw hC.mc, ?_, ?_⟩; (intro e he; replace he := mem_listed he; unfold execOp at he; simp [go_sem, hc] at he; subst he; exact okRead (by first | assumption | simp [In, Has])); clear hc hK hE hw K E w; try simp only [nrm, Nat.reduceAdd, Nat.reduceSub])
  refine Co.stop ⟨?_, 40, ?_⟩ _
  ·rw [hP]; exact at_recv119 hzL k _ (j6 := .bool true) (j8 := j8) (j9 := j9)
  ·rw [hP]
   have e : ∀ (K : List Item), ((baseD 119).at (tmC bO bL bF sl ph.n k (.bool true) (.chan (some ph.L)) j8 j9) (.inRegion c119_2 [1] :: K)).finish (.bool true) = (baseD 119).at (tmC bO bL bF sl ph.n k (.bool true) (.chan (some ph.L)) (.bool true) j9) (.inRegion c119_2 [] :: K) := fun K => by rw [Frame.finish_at]; rfl
   show Co Try.prog false (ph.CStop r) 40 M (G (((baseD 119).at (tmC bO bL bF sl ph.n k (.bool true) (.chan (some ph.L)) j8 j9) (.inRegion c119_2 [1] :: _)).finish (.bool true)) [root Try.prog])
   rw [e]
   refine Co.ctl hC.mc rfl (fun _ => stepG_region_end) ?_
   refine Co.ctl hC.mc rfl (fun _ => stepG_inBlock) ?_
   (refine Co.ctl hC.mc rfl (fun _ => stepG_region) ?_; simp only [List.size_toArray, List.length_cons, List.length_nil, Nat.reduceAdd, Nat.zero_add, List.range, List.range.loop])
   simp only [tmC, ptr]
   (refine Co.goes rfl fun w hw => goes_oper_e rfl rfl (by decide) fun K E hK hE => ?_; go_simp; refine hK _ _ ⟨_, Chg.refl hw hC.mc, ?_, ?_⟩; (rw [listed_nil (by unfold execOp; simp [go_sem])]; simp); clear hK hE hw K E w; try simp only [nrm, Nat.reduceAdd, Nat.reduceSub])
   (refine Co.goes rfl fun w hw => goes_oper_e rfl rfl (by decide) fun K E hK hE => ?_; go_simp; refine hK _ _ ⟨_, Chg.refl hw hC.mc, ?_, ?_⟩; (rw [listed_nil (by unfold execOp; simp [go_sem])]; simp); clear hK hE hw K E w; try simp only [nrm, Nat.reduceAdd, Nat.reduceSub])
   refine Co.ctl hC.mc rfl (fun _ => stepG_region_end) ?_
   refine Co.ctl hC.mc rfl (fun _ => stepG_inLoop) ?_
   have ew : IntKind.i64.wrap ((k : Int) + 1) = ((k + 1 : Nat) : Int) := by
    rw [Int.natCast_add]
    simp [IntKind.wrap, IntKind.signed, IntKind.bits]
    omega
   simp only [ew]
   exact Co.up (n := 20) (m := 13) hK
theorem closer119 {ph : Ph} (hP : ph.P = Try.prog) (hzL : ph.zL = .bool false) {ad : Option Addr} {cp : Nat} (hC : CF ph.F ph.L bO bL bF (.slice ad ph.n cp) M) (hbig : ph.n < 1000) :
  ∃ k, Co ph.P false (ph.CStop ph.n) k M (born Try.prog { target := .fn (.func 119) #[ptr bO, ptr bL, ptr bF], args := #[] }) := by
 rw [hP]
 refine ⟨40, ?_⟩
 refine Co.ctl hC.mc rfl (step_born 119 Try.f119 _ (by kernel_rfl) rfl rfl) ?_
 have he : Frame.enter Try.prog 119 #[ptr bO, ptr bL, ptr bF] .deferred = (baseD 119).at { tmps := #[ptr bO, ptr bL, ptr bF, undef, undef, undef, undef, undef, undef, undef, undef], defers := [] } [.code (.seq (.seq begin119 (.block 0 (.loop loop119))) (.region 4 c119_4 false))] := by
  have hf : Try.prog.funcs[119]? = some Try.f119 := by kernel_rfl
  simp only [Frame.enter, hf, Option.bind_some, body119, Option.getD_some, Option.map_some]
  rfl
 rw [he]
 refine Co.ctl hC.mc rfl (fun _ => stepG_seq) ?_
 refine Co.ctl hC.mc rfl (fun _ => stepG_seq) ?_
 unfold begin119
 (refine Co.ctl hC.mc rfl (fun _ => stepG_region) ?_; simp only [List.size_toArray, List.length_cons, List.length_nil, Nat.reduceAdd, Nat.zero_add, List.range, List.range.loop])
 obtain ⟨z, rr, hm⟩ := hC.hO
 have hin : In M bO := ⟨rr, _, hm⟩
 (refine Co.goes rfl fun w hw => goes_oper_e rfl rfl (by decide) fun K E hK hE => ?_; have hc := (Holds.cell hw (i := 0) (v := .slice ad ph.n cp) hm rfl); go_simp; refine hK _ _ ⟨_, Chg.refl hw hC.mc, ?_, ?_⟩; (intro e he; replace he := mem_listed he; unfold execOp at he; simp [go_sem, hc] at he; subst he; exact okRead (by first | assumption | simp [In, Has])); clear hc hK hE hw K E w; try simp only [nrm, Nat.reduceAdd, Nat.reduceSub])
 (refine Co.goes rfl fun w hw => goes_oper_e rfl rfl (by decide) fun K E hK hE => ?_; go_simp; refine hK _ _ ⟨_, Chg.refl hw hC.mc, ?_, ?_⟩; (rw [listed_nil (by unfold execOp; simp [go_sem])]; simp); clear hK hE hw K E w; try simp only [nrm, Nat.reduceAdd, Nat.reduceSub])
 (refine Co.goes rfl fun w hw => goes_oper_e rfl rfl (by decide) fun K E hK hE => ?_; go_simp; refine hK _ _ ⟨_, Chg.refl hw hC.mc, ?_, ?_⟩; (rw [listed_nil (by unfold execOp; simp [go_sem])]; simp); clear hK hE hw K E w; try simp only [nrm, Nat.reduceAdd, Nat.reduceSub])
 refine Co.ctl hC.mc rfl (fun _ => stepG_region_end) ?_
 refine Co.ctl hC.mc rfl (fun _ => stepG_block) ?_
 refine Co.ctl hC.mc rfl (fun _ => stepG_loop) ?_
 exact Co.up (n := 20) (m := 10) (round119 hP hzL hC hbig ph.n 0 undef undef undef undef (by omega))
end
end Go.Ov
namespace Go.Ov
open Go.Conc
def Reach (P : Program) (b : Frame) (cs : List Frame) (k' : List Item) (N : Act → World → Prop) (k : List Item) (a : Act) (w : World) : Prop :=
 ∃ a' w', N a' w' ∧ Steps P (lone (b.at a k) cs w) (lone (b.at a' k') cs w')
section
variable {P : Program} {b : Frame} {cs : List Frame} {k k' : List Item} {N : Act → World → Prop} {a : Act} {w : World}
theorem Reach.done (h : N a w) : Reach P b cs k N k a w := ⟨a, w, h, .refl _ _⟩
theorem Reach.code {x : Code} (h : ∀ K : Act → World → Prop, (∀ a w, Reach P b cs k' N k a w → K a w) → x.wp P (Ends2 K fun _ _ => False) a w) : Reach P b cs k' N (.code x :: k) a w := by
 obtain ⟨e, a1, w1, hq, harr⟩ := h _ (fun _ _ h => h) b k cs
 cases e with
 | normal =>
  obtain ⟨a2, w2, hn, hs⟩ := hq
  exact ⟨a2, w2, hn, Steps.trans harr hs⟩
 | _ => exact hq.elim
theorem Reach.seq {x y : Code} (h : Reach P b cs k' N (.code x :: .code y :: k) a w) : Reach P b cs k' N (.code (.seq x y) :: k) a w :=
 have ⟨a2, w2, hn, hs⟩ := h
 ⟨a2, w2, hn, .head step_seq hs⟩
theorem Reach.mono {N' : Act → World → Prop} (h : Reach P b cs k' N k a w) (hn : ∀ a w, N a w → N' a w) : Reach P b cs k' N' k a w :=
 have ⟨a2, w2, h1, hs⟩ := h
 ⟨a2, w2, hn _ _ h1, hs⟩
end
section
variable {R : Row} {b : Frame} {cs : List Frame} {k k' : List Item} {N : Act → World → Prop} {a : Act} {w0 : World}
theorem Row.reach (hk : b.kind = .normal) (hx : ∀ x ∈ k, OkItem R.P x) (hp : PlainW w0) (ha : AOk a) (h : ∀ τ d, Reach R.P b [sen R.P] k' N k a (w0.on τ d))
  (hN : ∀ a' w1, N a' w1 → PlainW w1 → AOk a' → (∀ x ∈ k', OkItem R.P x) → R.Runs (b.at a' k') cs w1) : R.Runs (b.at a k) cs w0 := by
 refine Till.runs (X := fun fr' w' => ∃ a', fr' = b.at a' k' ∧ N a' w') (okFrame_at hk ha hx) hk hp (fun τ d => ?_) ?_
 ·obtain ⟨a', w', hn, n, hs⟩ := h τ d
  exact ⟨n, _, w', hs, a', rfl, hn⟩
 ·rintro fr' w' ⟨a', rfl, hn⟩ ok _ hp'
  exact hN a' w' hn hp' ok.defers ok.todo
end
end Go.Ov
namespace Go.Ov
open Go.Conc Go.Proofs Go.RowKit
noncomputable def c101_0 : Array Oper := (fun {c} (_ : rg Try.f101 0 = some c) => c) rfl
noncomputable def c101_1 : Array Oper := (fun {c} (_ : rg Try.f101 1 = some c) => c) rfl
noncomputable def c101_2 : Array Oper := (fun {c} (_ : rg Try.f101 2 = some c) => c) rfl
noncomputable def c101_3 : Array Oper := (fun {c} (_ : rg Try.f101 3 = some c) => c) rfl
noncomputable def c101_4 : Array Oper := (fun {c} (_ : rg Try.f101 4 = some c) => c) rfl
noncomputable def c101_5 : Array Oper := (fun {c} (_ : rg Try.f101 5 = some c) => c) rfl
noncomputable def c101_6 : Array Oper := (fun {c} (_ : rg Try.f101 6 = some c) => c) rfl
noncomputable def c101_7 : Array Oper := (fun {c} (_ : rg Try.f101 7 = some c) => c) rfl
noncomputable def c101_8 : Array Oper := (fun {c} (_ : rg Try.f101 8 = some c) => c) rfl
noncomputable def l101_0 : Code := (.seq (.region 5 c101_5 false) (.seq (.cond (Operand.tmp 23) Code.skip (Code.exit 0)) (.seq (.block 1 (.seq (.region 6 c101_6 false) (.region 7 c101_7 false))) (.region 8 c101_8 false))))
noncomputable def c101_9 : Array Oper := (fun {c} (_ : rg Try.f101 9 = some c) => c) rfl
noncomputable def c101_10 : Array Oper := (fun {c} (_ : rg Try.f101 10 = some c) => c) rfl
noncomputable def c101_11 : Array Oper := (fun {c} (_ : rg Try.f101 11 = some c) => c) rfl
noncomputable def c101_12 : Array Oper := (fun {c} (_ : rg Try.f101 12 = some c) => c) rfl
noncomputable def c101_13 : Array Oper := (fun {c} (_ : rg Try.f101 13 = some c) => c) rfl
noncomputable def l101_1 : Code := (.seq (.region 11 c101_11 false) (.seq (.cond (Operand.tmp 32) Code.skip (Code.exit 2)) (.block 3 (.seq (.region 12 c101_12 false) (.region 13 c101_13 false)))))
noncomputable def c101_14 : Array Oper := (fun {c} (_ : rg Try.f101 14 = some c) => c) rfl
noncomputable def b101 : Code := (.seq (.region 0 c101_0 false) (.seq (.region 1 c101_1 false) (.seq (.region 2 c101_2 false) (.seq (.region 3 c101_3 false) (.seq (.seq (.region 4 c101_4 false) (.block 0 (.loop l101_0))) (.seq (.region 9 c101_9 false) (.seq (.seq (.region 10 c101_10 false) (.block 2 (.loop l101_1))) (.seq (.region 14 c101_14 false) Code.ret))))))))
theorem body101 : Try.f101.body = some b101 := by kernel_rfl
section
def billv (bs : Nat) : Option Int → Value
 | none => .func (.func 128) #[] #[]
 | some o => .func (.func 130) #[] #[ptr bs]
def accCells (bs : Nat) (l : List (Int × Option Int)) : List Value := l.flatMap fun p => [.int .i64 p.1, billv bs p.2]
def tmM (ag nf : Value) (bs bn bO bF bL : Nat) (acc : Value) (n i : Nat) (t8 t9 qA jD jS jB jK jQ jY jC jI jN jJ jO jW jA jF jT jZ jP jU jE jL jG jR jV jM jH jX : Value) : Act :=
 { tmps := #[ag, nf, ptr bs, ptr bn, .slice none 0 0, ptr bO, ptr bF, ptr bL, t8, t9, qA, jD, jS, jB, jK, jQ, jY, jC, jI, ag, acc, .int .i64 n, .int .i64 i, jN, jJ, jO, jW, jA, jF, jT, jZ, jP, jU, jE, jL, jG, jR, jV, jM, jH, jX], defers := [] }
theorem info22 : (Try.prog.info? 3).map (fun i => (i.zero, i.size, i.bytes)) = some (some (.int .i64 0), 1, 8) := by kernel_rfl
theorem mk151 (W : World) : (Instr.makeChan 151 (.int .i64 0)).run Try.prog W = .ok (.chan (some W.heap.size)) (W.alloc (.chan 0 #[] false 0 0 false)) := by
 obtain ⟨i, hi, _⟩ := Option.map_eq_some_iff.1 (show (Try.prog.info? 156).map (fun i => i.bytes) = some 16 by kernel_rfl)
 exact Go.Conc.run_makeChan (w := W) Try.underlying151 hi .i64 0 (by omega) (by omega)
theorem mk152 (n : Nat) (hn : n ≤ 1000) (W : World) : (Instr.makeChan 152 (.int .i64 (n : Int))).run Try.prog W = .ok (.chan (some W.heap.size)) (W.alloc (.chan n #[] false 0 0 false)) := by
 obtain ⟨i, hi, hb⟩ := Option.map_eq_some_iff.1 (show (Try.prog.info? 4).map (fun i => i.bytes) = some 1 by kernel_rfl)
 exact Go.Conc.run_makeChan (w := W) Try.underlying152 hi .i64 n (by omega) (by rw [hb]; omega)
theorem mk22 (n : Nat) (hn : n ≤ 1000) (W : World) : (Instr.makeSlice 22 (.int .i64 (n : Int)) (.int .i64 (n : Int))).run Try.prog W = .ok (.slice (some ⟨W.heap.size, 0, none⟩) n n) (W.alloc (.cells (madeCells #[.int .i64 0] n) 3)) := by
 exact Go.run_make_row' 22 3 (.int .i64 0) 8 Try.underlying22 info22 rfl .i64 .i64 n (by omega) (by omega) W
def AccRes (sales : Array Value) (n : Nat) (l : List (Int × Option Int)) (w : World) (v : Value) (w' : World) : Prop :=
 ∃ g bs, v = .slice (some ⟨g, 0, none⟩) n n ∧ w.heap.size ≤ g ∧ w.heap.size ≤ bs ∧ w'.heap[g]? = some (.cells (accCells bs l).toArray 135 (0, 0)) ∧ w'.heap[bs]? = some (.cells sales 36 (0, 0)) ∧ Below w.heap.size w w'
structure Begun (n : Nat) (sales : Array Value) (nf : Value) (l : List (Int × Option Int)) (w0 : World) (gA bs : Nat) (w1 : World) : Prop where
 os : w1.os = w0.os
 output : w1.output = w0.output
 size : w0.heap.size + 8 ≤ w1.heap.size
 same : ∀ k, k < w0.heap.size → w1.heap[k]? = w0.heap[k]?
 bn : w1.heap[w0.heap.size + 1]? = some (.cells #[nf] 137 (0, 0))
 gO : w1.heap[w0.heap.size + 2]? = some (.cells (madeCells #[.int .i64 0] n) 3 (0, 0))
 bO : w1.heap[w0.heap.size + 3]? = some (.cells #[.slice (some ⟨w0.heap.size + 2, 0, none⟩) n n] 22 (0, 0))
 F : w1.heap[w0.heap.size + 4]? = some (.chan 0 #[] false 0 0 false)
 bF : w1.heap[w0.heap.size + 5]? = some (.cells #[.chan (some (w0.heap.size + 4))] 151 (0, 0))
 L : w1.heap[w0.heap.size + 6]? = some (.chan n #[] false 0 0 false)
 bL : w1.heap[w0.heap.size + 7]? = some (.cells #[.chan (some (w0.heap.size + 6))] 152 (0, 0))
 row : w1.heap[gA]? = some (.cells (accCells bs l).toArray 135 (0, 0))
 box : w1.heap[bs]? = some (.cells sales 36 (0, 0))
 gA8 : w0.heap.size + 8 ≤ gA
 bs8 : w0.heap.size + 8 ≤ bs
set_option maxHeartbeats 4000000 in
theorem try101 {b : Frame} {cs : List Frame} {k : List Item} {w : World} (v0 v1 v2 v3 v4 v5 v7 : Value) (adr : Option Addr) (n c : Nat) (f : Nat) (cap : Array Value) (hn : n ≤ 400) (l : List (Int × Option Int))
  (hacc : ∀ W, Below w.heap.size w W → Calls Try.prog 117 #[.agg #[v0, v1, v2, v3, v4, v5, .slice adr n c, v7]] W fun e w' => ∃ v, e = .returned v ∧ AccRes #[v0, v1, v2, v3, v4, v5, .slice adr n c, v7] n l W v w') :
  Reach Try.prog b cs (.code (.block 0 (.loop l101_0)) :: .code (.seq (.region 9 c101_9 false) (.seq (.seq (.region 10 c101_10 false) (.block 2 (.loop l101_1))) (.seq (.region 14 c101_14 false) Code.ret))) :: k) (fun a' w1 => ∃ gA bs t8 t9 qA jD jS jB jK jQ jY jC jI jN jJ jO jW jA jF jT jZ jP jU jE jL jG jR jV jM jH jX, a' = tmM (.agg #[v0, v1, v2, v3, v4, v5, .slice adr n c, v7]) (.func (.func f) #[] cap) w.heap.size (w.heap.size + 1) (w.heap.size + 3) (w.heap.size + 5) (w.heap.size + 7) (.slice (some ⟨gA, 0, none⟩) n n) n 0
     t8 t9 qA jD jS jB jK jQ jY jC jI jN jJ jO jW jA jF jT jZ jP jU jE jL jG jR jV jM jH jX ∧ Begun n #[v0, v1, v2, v3, v4, v5, .slice adr n c, v7] (.func (.func f) #[] cap) l w gA bs w1)
   (.code b101 :: k) { tmps := #[.agg #[v0, v1, v2, v3, v4, v5, .slice adr n c, v7], .func (.func f) #[] cap] ++ Array.replicate 39 undef, defers := [] } w := by
 have h1 := mk151
 have h2 := mk152 n (by omega)
 have h3 := mk22 n (by omega)
 have hu36 := Try.underlying36
 unfold b101
 refine Reach.seq (Reach.code fun K hK => ?_)
 unfold c101_0
 go_wp2
 refine hK _ _ ?_
 refine Reach.seq (Reach.code fun K hK => ?_)
 unfold c101_1
 go_wp2
 refine hK _ _ ?_
 refine Reach.seq (Reach.code fun K hK => ?_)
 unfold c101_2
 go_wp2
 refine hK _ _ ?_
 refine Reach.seq (Reach.code fun K hK => ?_)
 unfold c101_3
 go_wp2
 refine hK _ _ ?_
 refine Reach.seq (Reach.seq (Reach.code fun K hK => ?_))
 unfold c101_4
 have HB : Hid (∀ W, Below w.heap.size w W → ∀ o, Below w.heap.size w (W.alloc o)) := fun W hW o => hW.alloc hW.size o
 go_wp2_with (go_at_call 117; refine Calls.mono (hacc _ (by repeat (first | exact Below.refl _ _ | apply HB.out))) ?_; rintro e w' ⟨v, rfl, g, bs, rfl, hg1, hg2, hg3, hg4, hb⟩; dsimp only)
 have hsz : ∀ (W : World) (o : Obj), (W.alloc o).heap.size = W.heap.size + 1 := fun W o => by simp
 simp only [hsz] at hg1 hg2 hb
 have hk : ∀ j o, j < w.heap.size + 8 → _ = some o → w'.heap[j]? = some o := fun j o hj h => (hb.block j (by omega)).trans h
 refine hK _ _ (Reach.done ⟨g, bs, ?_, ?_, ?_, ?_, ?_, ?_, ?_, ?_, ?_, ?_, ?_, ?_, ?_, ?_, ?_, ?_, ?_, ?_, ?_, ?_, ?_, ?_, ?_, ?_, ?_, ?_, ?_, ?_, ?_, ?eq, ?bg⟩)
 case bg =>
  have hx : ∀ (W : World) (o : Obj) (j : Nat), (W.alloc o).heap[j]? = if j = W.heap.size then some o else W.heap[j]? := fun W o j => by
   show (W.heap.push o)[j]? = _
   rw [Array.getElem?_push]
  refine ⟨hb.os, hb.output, ?_, fun j hj => ?_, hk _ _ (by omega) ?_, hk _ _ (by omega) ?_, hk _ _ (by omega) ?_, hk _ _ (by omega) ?_, hk _ _ (by omega) ?_, hk _ _ (by omega) ?_, hk _ _ (by omega) ?_, hg3, hg4, by omega, by omega⟩
  ·have := hb.size
   simp only [hsz] at this
   omega
  ·rw [hb.block j (by omega)]
   simp only [hx, hsz]
   repeat rw [if_neg (by omega)]
  all_goals
   simp only [hx, hsz]
   repeat first | rw [if_neg (by omega)] | rw [if_pos True.intro] | rw [if_pos (by omega)]
 case eq =>
  simp only [tmM, ptr, Array.replicate_succ, Array.replicate_zero, List.push_toArray, List.append_toArray, List.nil_append, List.cons_append, List.setIfInBounds_toArray, List.set_cons_succ, List.set_cons_zero, Nat.add_assoc, Nat.reduceAdd]
  rfl
end
section
variable {ph : Ph} {M : Mem} {b : Frame} {cs : List Frame} {K : List Item}
structure Sh (ph : Ph) (nf : Value) (l : List (Int × Option Int)) (bn bO bF bL gA bs gO : Nat) (S : Mem) : Prop where
 mc : MC S
 ro : ∀ b o r, (b, o, r) ∈ S → r = false
 hF : ∃ z, (bF, .cells #[.chan (some ph.F)] 151 z, false) ∈ S
 hL : ∃ z, (bL, .cells #[.chan (some ph.L)] 152 z, false) ∈ S
 hn : ∃ z, (bn, .cells #[nf] 137 z, false) ∈ S
 hO : ∃ z, (bO, .cells #[.slice (some ⟨gO, 0, none⟩) ph.n ph.n] 22 z, false) ∈ S
 hA : ∃ z, (gA, .cells (accCells bs l).toArray 135 z, false) ∈ S
 bill : ∀ p, p ∈ l → IsBill S (billv bs p.2) p.2
 len : l.length = ph.n
 nO : ¬ In S gO
def Num (f : FuncId) (cap : Array Value) (num : Int → Option Int → Int) : Prop :=
 ∀ {St : Mem → Goroutine → Prop} {n : Nat} {M : Mem} {c : Frame} {cs : List Frame} {x : Int} {bf : Value} {off : Option Int}, MC M → IsBill M bf off → (∀ M', MC M' → (∀ y ∈ M, y ∈ M') → Co Try.prog false St n M' (G (c.finish (.int .i64 (num x off))) cs)) →
  Co Try.prog false St (n + 50) M (G (Frame.enter Try.prog f (#[.agg #[.int .i64 x, bf]] ++ cap) .normal) (c :: cs))
theorem _root_.Go.Ov.Holds.frozen {M : Mem} {w : World} (h : Holds M w) {b i : Nat} {cs : Array Value} {t : TypeId} {r : Bool} (hm : (b, .cells cs t (0, 0), r) ∈ M) : w.frozen? ⟨b, i, none⟩ = false := by
 have := h b _ r hm
 simp [World.frozen?, this]
theorem heap_setCell_of {w : World} {b : Nat} {cs : Array Value} {e : TypeId} {z : Nat × Nat} (h : w.heap[b]? = some (.cells cs e z)) (i : Nat) (v : Value) : (w.setCell ⟨b, i, none⟩ v).heap = w.heap.setIfInBounds b (.cells (cs.setIfInBounds i v) e z) := by
 apply Array.ext_getElem?
 intro j
 show (w.heap.modify b _)[j]? = _
 rw [Array.getElem?_modify, Array.getElem?_setIfInBounds]
 by_cases hj : b = j
 ·subst hj
  have hlt := lt_of_some h
  rw [if_pos rfl, if_pos rfl, if_pos hlt, h]
  rfl
 ·simp [hj]
theorem Chg.cell {M1 M2 : Mem} {w : World} {b i : Nat} {cs : Array Value} {e : TypeId} {z : Nat × Nat} {v : Value} (h : Holds (M1 ++ (b, .cells cs e z, true) :: M2) w) (hc : MC (M1 ++ (b, .cells cs e z, true) :: M2)) (hn : ¬ In M1 b ∧ ¬ In M2 b) :
  Chg (M1 ++ (b, .cells cs e z, true) :: M2) w (w.setCell ⟨b, i, none⟩ v) (M1 ++ (b, .cells (cs.setIfInBounds i v) e z, true) :: M2) :=
 Chg.set h hc hn rfl rfl rfl (heap_setCell_of (h b _ true (by simp)) i v)
theorem Chg.trans {M1 M2 M3 : Mem} {w1 w2 w3 : World} (h : Chg M1 w1 w2 M2) (k : Chg M2 w2 w3 M3) (hc : ∀ b, Has M1 b true → Has M2 b true) (ho : ∀ b, Has M2 b true → Has M1 b true) : Chg M1 w1 w3 M3 := by
 refine ⟨k.tape.trans h.tape, k.os.trans h.os, k.output.trans h.output, Nat.le_trans h.size k.size, k.holds, fun b r hb => ?_, fun b hb hn => ?_, fun b hb o ho' => ?_, fun b hb o ho' => ?_⟩
 ·rcases k.from' b r hb with x | ⟨x, y⟩ | x
  ·exact h.from' b r x
  ·exact .inr (.inl ⟨x, ho b y⟩)
  ·exact .inr (.inr (Nat.le_trans h.size x))
 ·rw [k.other b (Nat.lt_of_lt_of_le hb h.size) fun x => hn (ho b x), h.other b hb hn]
 ·by_cases hlt : b < w2.heap.size
  ·by_cases hx : Has M2 b true
   ·exact k.cells b hx o ho'
   ·rw [k.other b hlt hx] at ho'
    exact h.fresh b hb o ho'
  ·exact k.fresh b (by omega) o ho'
 ·exact k.cells b (hc b hb) o ho'
theorem In.cons {M : Mem} {b c : Nat} {o : Obj} {r : Bool} : In ((c, o, r) :: M) b ↔ b = c ∨ In M b := by
 constructor
 ·rintro ⟨r', o', h⟩
  simp only [List.mem_cons, Prod.mk.injEq] at h
  rcases h with ⟨h, _⟩ | h
  ·exact .inl h
  ·exact .inr ⟨r', o', h⟩
 ·rintro (rfl | ⟨r', o', h⟩)
  ·exact ⟨r, o, .head _⟩
  ·exact ⟨r', o', .tail _ h⟩
theorem In.nil {b : Nat} : ¬ In [] b := by rintro ⟨r, o, h⟩; simp at h
theorem events_store_fn {P : Program} {w : World} {es : Array Event} (a : Addr) (m : Mode) (f : Fn) (x c : Array Value) : (store a (.func f x c) m).events P w es = storedEv P w es a (.func f x c) m := events_store P w es a _ m rfl
attribute [local go_sem] events_store_fn
theorem el153 : Try.prog.underlying 153 = some (.slice (Try.prog.elem 153)) := by kernel_rfl
theorem accCells_get (bs : Nat) : ∀ (l : List (Int × Option Int)) (k : Nat) (p : Int × Option Int), l[k]? = some p → (accCells bs l)[2 * k]? = some (.int .i64 p.1) ∧ (accCells bs l)[2 * k + 1]? = some (billv bs p.2)
 | [], k, p, h => by simp at h
 | q :: l, 0, p, h => by obtain rfl := Option.some.inj h; exact ⟨rfl, rfl⟩
 | q :: l, k + 1, p, h => by
  have := accCells_get bs l k p h
  have e1 : 2 * (k + 1) = 2 * k + 2 := by omega
  rw [e1]
  exact this
def baseN (f : FuncId) : Frame := { (default : Frame) with fn := f, kind := .normal }
theorem mc_own {S : Mem} (h : MC S) {gO : Nat} {outs : Array Value} {e : TypeId} {z : Nat × Nat} {r : Bool} : MC (S ++ [(gO, .cells outs e z, r)]) := fun b o r' hb => by
 simp only [List.mem_append, List.mem_singleton, Prod.mk.injEq] at hb
 rcases hb with hb | ⟨_, rfl, _⟩
 ·exact h b o r' hb
 ·exact ⟨_, _, _, rfl⟩
variable {ag nf : Value} {bs0 bn bO bF bL gA n : Nat} {St : Mem → Goroutine → Prop}
theorem over101 (hM : MC M) (t8 t9 jE jI jU jG jN jS jZ jH jM jQ jB jC jD jF jA jV qA jR jW jJ jO jK jT jX jP jL jY : Value) {m : Nat}
  (hend : Co Try.prog true St m M (G ((baseN 101).at (tmM ag nf bs0 bn bO bF bL (.slice (some ⟨gA, 0, none⟩) n n) n n t8 t9 jE jI jU jG jN jS jZ jH jM (.bool false) jB jC jD jF jA jV qA jR jW jJ jO jK jT jX jP jL jY) K) cs)) :
  Co Try.prog true St (m + 7) M (G ((baseN 101).at (tmM ag nf bs0 bn bO bF bL (.slice (some ⟨gA, 0, none⟩) n n) n n t8 t9 jE jI jU jG jN jS jZ jH jM jQ jB jC jD jF jA jV qA jR jW jJ jO jK jT jX jP jL jY) (.code l101_0 :: .inLoop l101_0 :: .inBlock 0 :: K)) cs) := by
 unfold l101_0
 refine Co.ctl hM rfl (fun _ => stepG_seq) ?_
 unfold c101_5
 (refine Co.ctl hM rfl (fun _ => stepG_region) ?_; simp only [List.size_toArray, List.length_cons, List.length_nil, Nat.reduceAdd, Nat.zero_add, List.range, List.range.loop])
 simp only [tmM, ptr]
 (refine Co.goes rfl fun w hw => goes_oper_e rfl rfl (by decide) fun K E hK hE => ?_; go_simp; refine hK _ _ ⟨_, Chg.refl hw hM, ?_, ?_⟩; (rw [listed_nil (by unfold execOp; simp [go_sem])]; simp); clear hK hE hw K E w; try simp only [nrm, Nat.reduceAdd, Nat.reduceSub])
 refine Co.ctl hM rfl (fun _ => stepG_region_end) ?_
 refine Co.ctl hM rfl (fun _ => stepG_seq) ?_
 refine Co.ctl hM rfl (fun _ => stepG_cond (t := false) ?_) ?_
 ·simp [Act.eval]
 simp only [Bool.false_eq_true, if_false]
 refine Co.ctl hM rfl (fun _ => stepG_exit rfl) ?_
 exact hend
theorem round101 (hM : MC M) (k : Nat) (hlt : (k : Int) < (n : Int)) (x : Int) (fb : FuncId) (cb : Array Value) {accs : Array Value} {z : Nat × Nat} {r : Bool} (hA : (gA, .cells accs 135 z, r) ∈ M) (h0 : accs[k * 2]? = some (.int .i64 x)) (h1 : accs[k * 2 + 1]? = some (.func (.func fb) #[] cb))
  (t8 t9 jE jI jU jG jN jS jZ jH jM jQ jB jC jD jF jA jV qA jR jW jJ jO jK jT jX jP jL jY : Value) {m : Nat}
  (hgo : ∀ bi ba jB jC jD, ¬ In M bi → ¬ In M ba → ba ≠ bi → Co Try.prog true St m ((ba, .cells #[.int .i64 x, .func (.func fb) #[] cb] 135 (0, 0), true) :: (bi, .cells #[.int .i64 k] 3 (0, 0), true) :: M)
   (G ((baseN 101).at (tmM ag nf bs0 bn bO bF bL (.slice (some ⟨gA, 0, none⟩) n n) n k (ptr bi) (ptr ba) jE jI jU jG jN jS jZ jH jM (.bool true) jB jC jD (.func (.func 118) #[] #[ptr bF, ptr bi, ptr bn, ptr ba, ptr bL]) jA jV qA jR jW jJ jO jK jT jX jP jL jY)
    (.inRegion c101_7 [1] :: .inBlock 1 :: .code (.region 8 c101_8 false) :: .inLoop l101_0 :: .inBlock 0 :: K)) cs)) :
  Co Try.prog true St (m + 40) M (G ((baseN 101).at (tmM ag nf bs0 bn bO bF bL (.slice (some ⟨gA, 0, none⟩) n n) n k t8 t9 jE jI jU jG jN jS jZ jH jM jQ jB jC jD jF jA jV qA jR jW jJ jO jK jT jX jP jL jY) (.code l101_0 :: .inLoop l101_0 :: .inBlock 0 :: K)) cs) := by
 have hin : In M gA := ⟨r, _, hA⟩
 unfold l101_0
 refine Co.ctl hM rfl (fun _ => stepG_seq) ?_
 unfold c101_5
 (refine Co.ctl hM rfl (fun _ => stepG_region) ?_; simp only [List.size_toArray, List.length_cons, List.length_nil, Nat.reduceAdd, Nat.zero_add, List.range, List.range.loop])
 simp only [tmM, ptr]
 (refine Co.goes rfl fun w hw => goes_oper_e rfl rfl (by decide) fun K E hK hE => ?_; go_simp; refine hK _ _ ⟨_, Chg.refl hw hM, ?_, ?_⟩; (rw [listed_nil (by unfold execOp; simp [go_sem])]; simp); clear hK hE hw K E w; try simp only [nrm, Nat.reduceAdd, Nat.reduceSub])
 refine Co.ctl hM rfl (fun _ => stepG_region_end) ?_
 refine Co.ctl hM rfl (fun _ => stepG_seq) ?_
 refine Co.ctl hM rfl (fun _ => stepG_cond (t := true) ?_) ?_
 ·simp [Act.eval, hlt]
 simp only [if_true]
 refine Co.ctl hM rfl (fun _ => stepG_skip) ?_
 refine Co.ctl hM rfl (fun _ => stepG_seq) ?_
 refine Co.ctl hM rfl (fun _ => stepG_block) ?_
 refine Co.ctl hM rfl (fun _ => stepG_seq) ?_
 unfold c101_6
 (refine Co.ctl hM rfl (fun _ => stepG_region) ?_; simp only [List.size_toArray, List.length_cons, List.length_nil, Nat.reduceAdd, Nat.zero_add, List.range, List.range.loop])
 (refine Co.goes rfl fun w hw => goes_oper_e rfl rfl (by decide) fun K E hK hE => ?_; go_simp; refine hK _ _ ⟨_, Chg.refl hw hM, ?_, ?_⟩; (rw [listed_nil (by unfold execOp; simp [go_sem])]; simp); clear hK hE hw K E w; try simp only [nrm, Nat.reduceAdd, Nat.reduceSub])
 refine Co.goes rfl fun w hw => goes_oper_e rfl rfl (by decide) fun K E hK hE => ?_
 go_simp
 refine hK _ _ ⟨_, Chg.refl hw hM, ?_, ?_⟩
 ·rw [listed_nil (by unfold execOp; simp [go_sem]; exact events_indexAt_slice _ _ _ _ _ _ el153 ⟨by omega, hlt⟩)]; simp
 clear hK hE hw K E w
 try simp only [nrm, Nat.reduceAdd, Nat.reduceSub]
 refine Co.goes rfl fun w hw => goes_oper_e rfl rfl (by decide) fun K E hK hE => ?_
 have hc := Holds.cell hw hA h0
 have hc2 := Holds.cell hw hA h1
 go_simp
 refine hK _ _ ⟨_, Chg.refl hw hM, ?_, ?_⟩
 ·intro e he
  replace he := mem_listed he
  unfold execOp at he
  simp [go_sem, hc, hc2] at he
  rcases he with rfl | rfl
  ·exact okRead hin
  ·exact okRead hin
 clear hc hc2 hK hE hw K E w
 try simp only [nrm, Nat.reduceAdd, Nat.reduceSub]
 refine Co.goes rfl fun w hw => goes_oper_e rfl rfl (by decide) fun K E hK hE => ?_
 go_simp
 refine hK _ _ ⟨_, Chg.push hw hM _ _ _, ?_, ?_⟩
 ·rw [listed_nil (by unfold execOp; simp [go_sem])]; simp
 have hbi : ¬ In M w.heap.size := fun h => absurd (hw.lt h) (by omega)
 clear hK hE hw K E
 generalize w.heap.size = bi at hbi ⊢
 clear w
 try simp only [nrm, Nat.reduceAdd, Nat.reduceSub]
 have hM1 := hM.cons bi #[.int .i64 0] 3 (0, 0) true
 refine Co.goes rfl fun w hw => goes_oper_e rfl rfl (by decide) fun K E hK hE => ?_
 go_simp
 refine hK _ _ ⟨_, Chg.push hw hM1 _ _ _, ?_, ?_⟩
 ·rw [listed_nil (by unfold execOp; simp [go_sem])]; simp
 have hne : ¬ In ((bi, .cells #[.int .i64 0] 3 (0, 0), true) :: M) w.heap.size := fun h => absurd (hw.lt h) (by omega)
 clear hK hE hw K E
 generalize w.heap.size = ba at hne ⊢
 clear w
 try simp only [nrm, Nat.reduceAdd, Nat.reduceSub]
 have hM2 := hM1.cons ba #[.int .i64 0, .nilFunc] 135 (0, 0) true
 have hne1 : ba ≠ bi := fun e => hne (In.cons.2 (.inl e))
 have hne2 : ¬ In M ba := fun e => hne (In.cons.2 (.inr e))
 refine Co.goes rfl fun w hw => goes_oper_e rfl rfl (by decide) fun K E hK hE => ?_
 have hc := Holds.cell hw (b := bi) (i := 0) (v := .int .i64 0) (.tail _ (.head _)) rfl
 have hf := Holds.frozen hw (b := bi) (i := 0) (.tail _ (.head _))
 go_simp
 refine hK _ _ ⟨_, Chg.cell (M1 := [(ba, .cells #[.int .i64 0, .nilFunc] 135 (0, 0), true)]) hw hM2 ⟨fun h => ?_, hbi⟩, ?_, ?_⟩
 ·rcases In.cons.1 h with h | h
  ·exact hne1 h.symm
  ·exact In.nil h
 ·intro e he
  replace he := mem_listed he
  unfold execOp at he
  simp [go_sem, hc, hf] at he
  subst he
  exact okWrite ⟨_, .tail _ (.head _)⟩
 clear hc hf hK hE hw K E w
 try simp only [nrm, Nat.reduceAdd, Nat.reduceSub]
 have hM3 := (hM.cons bi #[.int .i64 k] 3 (0, 0) true).cons ba #[.int .i64 0, .nilFunc] 135 (0, 0) true
 refine Co.goes rfl fun w hw => goes_oper_e rfl rfl (by decide) fun K E hK hE => ?_
 have hc := Holds.cell hw (b := ba) (i := 0) (v := .int .i64 0) (.head _) rfl
 have hc1 := Holds.cell hw (b := ba) (i := 1) (v := .nilFunc) (.head _) rfl
 have hf := Holds.frozen hw (b := ba) (i := 0) (.head _)
 have hf1 := Holds.frozen hw (b := ba) (i := 1) (.head _)
 go_simp
 have hne3 : ¬ In ((bi, .cells #[.int .i64 k] 3 (0, 0), true) :: M) ba := fun h => by
  rcases In.cons.1 h with h | h
  ·exact hne1 h
  ·exact hne2 h
 have hc3 := Chg.cell (M1 := []) (i := 0) (v := .int .i64 x) hw hM3 ⟨In.nil, hne3⟩
 have hc4 := Chg.cell (M1 := []) (i := 1) (v := .func (.func fb) #[] cb) hc3.holds ((hM.cons bi #[.int .i64 k] 3 (0, 0) true).cons ba _ 135 (0, 0) true) ⟨In.nil, hne3⟩
 refine hK _ _ ⟨_, Chg.trans hc3 hc4 (fun b h => ?_) (fun b h => ?_), ?_, ?_⟩
 ·obtain ⟨o, h⟩ := h
  simp only [List.nil_append, List.mem_cons, Prod.mk.injEq] at h
  rcases h with ⟨rfl, _, _⟩ | h
  ·exact ⟨_, .head _⟩
  ·exact ⟨o, List.mem_cons_of_mem _ (by simpa using h)⟩
 ·obtain ⟨o, h⟩ := h
  simp only [List.nil_append, List.mem_cons, Prod.mk.injEq] at h
  rcases h with ⟨rfl, _, _⟩ | h
  ·exact ⟨_, .head _⟩
  ·exact ⟨o, List.mem_cons_of_mem _ (by simpa using h)⟩
 ·intro e he
  replace he := mem_listed he
  unfold execOp at he
  simp [go_sem, hc, hf, hc1, hf1] at he
  rcases he with rfl | rfl
  ·exact okWrite ⟨_, .head _⟩
  ·exact okWrite ⟨_, .head _⟩
 clear hc hf hc1 hf1 hc3 hc4 hK hE hw K E w
 have hM4 := (hM.cons bi #[.int .i64 k] 3 (0, 0) true).cons ba #[.int .i64 x, .func (.func fb) #[] cb] 135 (0, 0) true
 refine Co.ctl hM4 rfl (fun _ => stepG_region_end) ?_
 unfold c101_7
 (refine Co.ctl hM4 rfl (fun _ => stepG_region) ?_; simp only [List.size_toArray, List.length_cons, List.length_nil, Nat.reduceAdd, Nat.zero_add, List.range, List.range.loop])
 (refine Co.goes rfl fun w hw => goes_oper_e rfl rfl (by decide) fun K E hK hE => ?_; go_simp; refine hK _ _ ⟨_, Chg.refl hw hM4, ?_, ?_⟩; (rw [listed_nil (by unfold execOp; simp [go_sem])]; simp); clear hK hE hw K E w; try simp only [nrm, Nat.reduceAdd, Nat.reduceSub])
 exact Co.up (m := 19) (hgo bi ba _ _ _ hbi hne2 hne1)
noncomputable def o101 : Oper := ⟨none, .go ⟨.value (.tmp 27), #[], #[]⟩, 0, "bold.go:175", #[⟨0, .data⟩], none⟩
theorem go101 {a : Act} {cap : Array Value} (ha : a.eval (.tmp 27) = .func (.func 118) #[] cap) (w : World) :
  stepG Try.prog true (G ((baseN 101).at a (.inRegion c101_7 [1] :: K)) cs) w = .spawn (G ((baseN 101).at a (.inRegion c101_7 [] :: K)) cs) (born Try.prog { target := .fn (.func 118) cap, args := #[] }) w := by
 have ha' : a.tmps[27]?.getD undef = .func (.func 118) #[] cap := by simpa [Act.eval] using ha
 have hr : (execOp a.eval o101).run Try.prog w = .ok (.spawn { target := .fn (.func 118) cap, args := #[] }) w := by
  unfold execOp o101
  simp [go_sem, resolve, Deferred.ofValue, ha']
 have h := stepG_spawn (P := Try.prog) (main := true) (b := baseN 101) (a := a) (k := K) (cs := cs) (w := w) (ops := c101_7) (i := 1) (rest := []) (o := o101) rfl rfl (by decide) hr rfl
 rw [h]
 have e : listed Try.prog (baseN 101).fn a o101 w = #[] := listed_nil (by
  unfold execOp o101
  simp [go_sem, resolve, Deferred.ofValue, ha'])
 rw [e]
 rfl
theorem next101 (hM : MC M) (k : Nat) (hk : k < 1000) (t8 t9 jE jI jU jG jN jS jZ jH jM jQ jB jC jD jF jA jV qA jR jW jJ jO jK jT jX jP jL jY : Value) {m : Nat}
  (h : ∀ jA, Co Try.prog true St m M (G ((baseN 101).at (tmM ag nf bs0 bn bO bF bL (.slice (some ⟨gA, 0, none⟩) n n) n (k + 1) t8 t9 jE jI jU jG jN jS jZ jH jM jQ jB jC jD jF jA jV qA jR jW jJ jO jK jT jX jP jL jY) (.code l101_0 :: .inLoop l101_0 :: .inBlock 0 :: K)) cs)) :
  Co Try.prog true St (m + 7) M (G ((baseN 101).at (tmM ag nf bs0 bn bO bF bL (.slice (some ⟨gA, 0, none⟩) n n) n k t8 t9 jE jI jU jG jN jS jZ jH jM jQ jB jC jD jF jA jV qA jR jW jJ jO jK jT jX jP jL jY) (.inRegion c101_7 [] :: .inBlock 1 :: .code (.region 8 c101_8 false) :: .inLoop l101_0 :: .inBlock 0 :: K)) cs) := by
 refine Co.ctl hM rfl (fun _ => stepG_region_end) ?_
 refine Co.ctl hM rfl (fun _ => stepG_inBlock) ?_
 unfold c101_8
 (refine Co.ctl hM rfl (fun _ => stepG_region) ?_; simp only [List.size_toArray, List.length_cons, List.length_nil, Nat.reduceAdd, Nat.zero_add, List.range, List.range.loop])
 simp only [tmM, ptr]
 (refine Co.goes rfl fun w hw => goes_oper_e rfl rfl (by decide) fun K E hK hE => ?_; go_simp; refine hK _ _ ⟨_, Chg.refl hw hM, ?_, ?_⟩; (rw [listed_nil (by unfold execOp; simp [go_sem])]; simp); clear hK hE hw K E w; try simp only [nrm, Nat.reduceAdd, Nat.reduceSub])
 (refine Co.goes rfl fun w hw => goes_oper_e rfl rfl (by decide) fun K E hK hE => ?_; go_simp; refine hK _ _ ⟨_, Chg.refl hw hM, ?_, ?_⟩; (rw [listed_nil (by unfold execOp; simp [go_sem])]; simp); clear hK hE hw K E w; try simp only [nrm, Nat.reduceAdd, Nat.reduceSub])
 refine Co.ctl hM rfl (fun _ => stepG_region_end) ?_
 refine Co.ctl hM rfl (fun _ => stepG_inLoop) ?_
 have ew : IntKind.i64.wrap ((k : Int) + 1) = ((k + 1 : Nat) : Int) := by
  rw [Int.natCast_add]
  simp [IntKind.wrap, IntKind.signed, IntKind.bits]
  omega
 simp only [ew]
 exact h _
theorem isBill_mem {M M' : Mem} (h : ∀ y ∈ M, y ∈ M') : ∀ {bf : Value} {off : Option Int}, IsBill M bf off → IsBill M' bf off
 | bf, none, e => e
 | bf, some o, ⟨bs, sales, z, r, e, hm, ho⟩ => ⟨bs, sales, z, r, e, h _ hm, ho⟩
theorem billv_func (bs : Nat) (off : Option Int) : ∃ fb cb, billv bs off = .func (.func fb) #[] cb := by
 cases off with
 | none => exact ⟨_, _, rfl⟩
 | some o => exact ⟨_, _, rfl⟩
theorem spawn101 (hP : ph.P = Try.prog) {l : List (Int × Option Int)} {bs gO : Nat} {S : Mem} {outs : Array Value} {z : Nat × Nat} (hS : Sh ph nf l bn bO bF bL gA bs gO S) (hbig : ph.n < 1000)
  {f : FuncId} {fn : Func} {cap : Array Value} (hnf : nf = .func (.func f) #[] cap) (hf : Try.prog.funcs[f]? = some fn) (hname : (fn.name == "runtime.NumGoroutine") = false) (hbo : fn.body.isNone = false) {num : Int → Option Int → Int} (hnum : Num f cap num)
  (hval : ∀ j p, l[j]? = some p → ph.val j = .agg #[.int .i64 j, .int .i64 (num p.1 p.2)]) (jE jI jU jG jN jS jZ jH jM jV qA jR jW jJ jO jK jT jX jP jL jY : Value)
  (hend : ∀ t8 t9 jQ jB jC jD jF jA, Co Try.prog true (ph.SStop 0) 50 (S ++ [(gO, .cells outs 3 z, true)]) (G ((baseN 101).at (tmM ag nf bs0 bn bO bF bL (.slice (some ⟨gA, 0, none⟩) ph.n ph.n) ph.n ph.n t8 t9 jE jI jU jG jN jS jZ jH jM jQ jB jC jD jF jA jV qA jR jW jJ jO jK jT jX jP jL jY) K) cs)) :
  ∀ (s k : Nat), k + s = ph.n → ∀ t8 t9 jQ jB jC jD jF jA, Co Try.prog true (ph.SStop s) 60 (S ++ [(gO, .cells outs 3 z, true)]) (G ((baseN 101).at (tmM ag nf bs0 bn bO bF bL (.slice (some ⟨gA, 0, none⟩) ph.n ph.n) ph.n k t8 t9 jE jI jU jG jN jS jZ jH jM jQ jB jC jD jF jA jV qA jR jW jJ jO jK jT jX jP jL jY) (.code l101_0 :: .inLoop l101_0 :: .inBlock 0 :: K)) cs)
 | 0, k, hks => fun t8 t9 jQ jB jC jD jF jA => by
  obtain rfl : k = ph.n := by omega
  exact Co.up (n := 57) (m := 3) (over101 (mc_own hS.mc) _ _ _ _ _ _ _ _ _ _ _ _ _ _ _ _ _ _ _ _ _ _ _ _ _ _ _ _ _ (hend _ _ _ _ _ _ _ _))
 | s + 1, k, hks => fun t8 t9 jQ jB jC jD jF jA => by
  have hMc := mc_own hS.mc (gO := gO) (outs := outs) (e := 3) (z := z) (r := true)
  have hlt : k < l.length := by rw [hS.len]; omega
  obtain ⟨p, hp⟩ : ∃ p, l[k]? = some p := ⟨_, List.getElem?_eq_getElem hlt⟩
  have hpm : p ∈ l := List.mem_of_getElem? hp
  obtain ⟨fb, cb, hfb⟩ := billv_func bs p.2
  obtain ⟨zA, hA⟩ := hS.hA
  have hget := accCells_get bs l k p hp
  rw [hfb] at hget
  refine Co.up (n := 40) (m := 20) (round101 (m := 0) hMc k (by omega) p.1 fb cb (List.mem_append_left _ hA) (by simpa [Nat.mul_comm] using hget.1) (by simpa [Nat.mul_comm] using hget.2) _ _ _ _ _ _ _ _ _ _ _ _ _ _ _ _ _ _ _ _ _ _ _ _ _ _ _ _ _ fun bi ba u24 u25 u26 hbi hba hne => ?_)
  refine ⟨rfl, fun w hw => ⟨_, _, by rw [hP]; exact go101 rfl w, (ba, .cells #[.int .i64 p.1, .func (.func fb) #[] cb] 135 (0, 0), true) :: (bi, .cells #[.int .i64 k] 3 (0, 0), true) :: S, S ++ [(gO, .cells outs 3 z, true)], ?_, ?_, ?_⟩⟩
  ·have hnS : ∀ b, ¬ Has S b true := fun b ⟨o, h⟩ => by have := hS.ro b o true h; cases this
   have hT : ∀ b, Has (S ++ [(gO, .cells outs 3 z, true)]) b true → b = gO := fun b ⟨o, h⟩ => by
    simp only [List.mem_append, List.mem_singleton, Prod.mk.injEq] at h
    rcases h with h | ⟨h, _⟩
    ·exact absurd ⟨o, h⟩ (hnS b)
    ·exact h
   refine ⟨fun b ⟨o, h⟩ => ?_, fun b ⟨o, h⟩ => ?_, fun b r ⟨o, h⟩ => .inl ⟨o, .tail _ (.tail _ h)⟩, fun w' hw' => ⟨fun b o r h => ?_, fun b o r h => hw' b o r (.tail _ (.tail _ h))⟩⟩
   ·simp only [List.mem_cons, Prod.mk.injEq] at h
    rcases h with ⟨rfl, rfl, _⟩ | ⟨rfl, rfl, _⟩ | h
    ·exact ⟨⟨_, .head _⟩, hba⟩
    ·exact ⟨⟨_, .tail _ (.head _)⟩, hbi⟩
    ·exact absurd ⟨o, h⟩ (hnS b)
   ·simp only [List.mem_cons, Prod.mk.injEq] at h
    rcases h with ⟨_, _, h⟩ | ⟨_, _, h⟩ | h
    ·cases h
    ·cases h
    ·exact ⟨⟨false, o, .tail _ (.tail _ (List.mem_append_left _ h))⟩, fun hx => hS.nO ⟨false, o, hT b hx ▸ h⟩⟩
   ·simp only [List.mem_cons, Prod.mk.injEq] at h
    rcases h with ⟨rfl, rfl, rfl⟩ | ⟨rfl, rfl, rfl⟩ | h
    ·exact hw' _ _ true (.head _)
    ·exact hw' _ _ true (.tail _ (.head _))
    ·exact hw' _ _ r (.tail _ (.tail _ (List.mem_append_left _ h)))
  ·obtain ⟨zF, hF⟩ := hS.hF
   obtain ⟨zL, hL⟩ := hS.hL
   obtain ⟨zn, hn⟩ := hS.hn
   have hj : ph.n - (s + 1) = k := by omega
   rw [hj]
   have hW : WF ph.F ph.L k p.1 nf (billv bs p.2) p.2 bF bi bn ba bL ((ba, .cells #[.int .i64 p.1, .func (.func fb) #[] cb] 135 (0, 0), true) :: (bi, .cells #[.int .i64 k] 3 (0, 0), true) :: S) :=
    ⟨(hS.mc.cons bi _ 3 (0, 0) true).cons ba _ 135 (0, 0) true, ⟨zF, false, .tail _ (.tail _ hF)⟩, ⟨_, true, .tail _ (.head _)⟩, ⟨zn, false, .tail _ (.tail _ hn)⟩, ⟨_, true, by rw [hfb]; exact .head _⟩, ⟨zL, false, .tail _ (.tail _ hL)⟩,
     isBill_mem (fun y hy => .tail _ (.tail _ hy)) (hS.bill p hpm)⟩
   refine worker118 hP (hval k p hp) hW hnf hf hname hbo ?_
   intro n M c cs hW' hk
   have hx := hnum (St := ph.AStop k) (n := n) (c := c) (cs := cs) (x := p.1) hW'.mc hW'.bill fun M' hM' hsub => hk M' ⟨hM', ?_, ?_, ?_, ?_, ?_, isBill_mem hsub hW'.bill⟩
   ·exact hx
   ·obtain ⟨z, r, h⟩ := hW'.hF; exact ⟨z, r, hsub _ h⟩
   ·obtain ⟨z, r, h⟩ := hW'.hi; exact ⟨z, r, hsub _ h⟩
   ·obtain ⟨z, r, h⟩ := hW'.hn; exact ⟨z, r, hsub _ h⟩
   ·obtain ⟨z, r, h⟩ := hW'.ha; exact ⟨z, r, hsub _ h⟩
   ·obtain ⟨z, r, h⟩ := hW'.hL; exact ⟨z, r, hsub _ h⟩
  ·refine ⟨67, ?_⟩
   rw [hP]
   exact next101 hMc k (by omega) _ _ _ _ _ _ _ _ _ _ _ _ _ _ _ _ _ _ _ _ _ _ _ _ _ _ _ _ _ fun jA => spawn101 hP hS hbig hnf hf hname hbo hnum hval jE jI jU jG jN jS jZ jH jM jV qA jR jW jJ jO jK jT jX jP jL jY hend s (k + 1) (by omega) _ _ _ _ _ _ _ _
end
attribute [local go_sem] events_store_fn
def outsOf (y : Nat → Int) (n : Nat) (got : List Nat) : Array Value := ((List.range n).map fun j => Value.int .i64 (if j ∈ got then y j else 0)).toArray
theorem outsOf_nil (y : Nat → Int) (n : Nat) : outsOf y n [] = madeCells #[.int .i64 0] n := by
 apply Array.ext_getElem?
 intro i
 rcases Nat.lt_or_ge i n with h | h
 ·simp [outsOf, madeCells, Nat.mod_one, List.getElem?_range h, Array.getElem?_range, h]
 ·simp [outsOf, madeCells, Nat.mod_one, h]
theorem outsOf_set (y : Nat → Int) (n j : Nat) (got : List Nat) (hj : j < n) : (outsOf y n got).setIfInBounds j (.int .i64 (y j)) = outsOf y n (j :: got) := by
 apply Array.ext_getElem?
 intro i
 rw [Array.getElem?_setIfInBounds]
 simp only [outsOf, List.getElem?_toArray, List.getElem?_map, List.size_toArray, List.length_map, List.length_range, List.mem_cons]
 by_cases hij : j = i
 ·subst hij
  rw [if_pos rfl, if_pos hj, List.getElem?_range hj]
  simp
 ·rw [if_neg hij]
  rcases Nat.lt_or_ge i n with h | h
  ·rw [List.getElem?_range h]
   simp [Ne.symm hij]
  ·simp [List.getElem?_eq_none, h]
theorem Chg.cell2 {M : Mem} {w : World} {b : Nat} {x y u v : Value} {e : TypeId} {z : Nat × Nat} (h : Holds ((b, .cells #[x, y] e z, true) :: M) w) (hc : MC M) (hn : ¬ In M b) :
  Chg ((b, .cells #[x, y] e z, true) :: M) w ((w.setCell ⟨b, 0, none⟩ u).setCell ⟨b, 1, none⟩ v) ((b, .cells #[u, v] e z, true) :: M) := by
 have hc3 := Chg.cell (M1 := []) (i := 0) (v := u) h (hc.cons b _ e z true) ⟨In.nil, hn⟩
 have hc4 := Chg.cell (M1 := []) (i := 1) (v := v) hc3.holds (hc.cons b _ e z true) ⟨In.nil, hn⟩
 refine Chg.trans hc3 hc4 (fun c h => ?_) (fun c h => ?_)
 all_goals
  obtain ⟨o, h⟩ := h
  simp only [List.nil_append, List.mem_cons, Prod.mk.injEq] at h
  rcases h with ⟨rfl, _, _⟩ | h
  ·exact ⟨_, .head _⟩
  ·exact ⟨o, List.mem_cons_of_mem _ (by simpa using h)⟩
theorem Chg.weaken {M M' M'' : Mem} {w w' : World} (h : Chg M w w' M') (hs : ∀ y ∈ M'', y ∈ M') : Chg M w w' M'' :=
 ⟨h.tape, h.os, h.output, h.size, fun b o r hb => h.holds b o r (hs _ hb), fun b r ⟨o, hb⟩ => h.from' b r ⟨o, hs _ hb⟩, h.other, h.fresh, h.cells⟩
section
variable {ph : Ph} {M : Mem} {cs : List Frame} {K : List Item} {ag nf : Value} {bs0 bn bO bF bL gA n : Nat} {St : Mem → Goroutine → Prop}
theorem at_recv101 (hzF : ph.zF = .agg #[.int .i64 0, .int .i64 0]) {a : Act} (ha : a.eval (.tmp 30) = .chan (some ph.F)) : AtC Try.prog true M (G ((baseN 101).at a (.inRegion c101_11 [0, 1] :: K)) cs) ph.recvF (.recv true) := by
 have ha' : a.tmps[30]?.getD undef = .chan (some ph.F) := by simpa [Act.eval] using ha
 refine ⟨rfl, fun w hw => ?_⟩
 let o : Oper := ⟨some 31, .recv 151 (.tmp 30) true, 0, "bold.go:186", #[], none⟩
 have hr : (execOp a.eval o).run Try.prog w = .ok (.comm #[rcase ph.F (.agg #[.int .i64 0, .int .i64 0])] true (.recv true)) w := by
  unfold execOp
  simp [go_sem, o, ha', rcase]
 have h := stepG_comm (P := Try.prog) (main := true) (b := baseN 101) (a := a) (k := K) (cs := cs) (w := w) (ops := c101_11) (i := 0) (rest := [1]) (o := o) (cases := #[rcase ph.F (.agg #[.int .i64 0, .int .i64 0])]) (blocking := true) (shape := .recv true) (w' := w) rfl rfl (by decide) hr
 rw [h]
 have e : listed Try.prog (baseN 101).fn a o w = #[] := listed_nil (by
  unfold execOp; simp [go_sem, o, ha'])
 rw [Ph.recvF, hzF]
 exact congrArg _ e
theorem fin_recv101 {a : Act} (v : Value) (ok : Bool) : fin Try.prog (G ((baseN 101).at a (.inRegion c101_11 [0, 1] :: K)) cs) ph.recvF (.recv true) v ok = G ((baseN 101).at (a.put (some 31) (.tuple #[v, .bool ok])) (.inRegion c101_11 [1] :: K)) cs := by
 have e : ((baseN 101).at a (.inRegion c101_11 [0, 1] :: K)).finish (.tuple #[v, .bool ok]) = (baseN 101).at (a.put (some 31) (.tuple #[v, .bool ok])) (.inRegion c101_11 [1] :: K) := by
  rw [Frame.finish_at]; rfl
 rw [← e]
 rfl
theorem head101 (hM : MC M) {a : Act} {m : Nat} (h : Co Try.prog true St m M (G ((baseN 101).at a (.inRegion c101_11 [0, 1] :: .code (.seq (.cond (Operand.tmp 32) Code.skip (Code.exit 2)) (.block 3 (.seq (.region 12 c101_12 false) (.region 13 c101_13 false)))) :: .inLoop l101_1 :: K)) cs)) :
  Co Try.prog true St (m + 2) M (G ((baseN 101).at a (.code l101_1 :: .inLoop l101_1 :: K)) cs) := by
 unfold l101_1
 refine Co.ctl hM rfl (fun _ => stepG_seq) ?_
 refine Co.ctl hM rfl (fun _ => stepG_region) ?_
 exact h
theorem el22 : Try.prog.underlying 22 = some (.slice (Try.prog.elem 22)) := by kernel_rfl
theorem take101 {S : Mem} {gO : Nat} {outs : Array Value} (hS : MC S) (hnO : ¬ In S gO) (j : Nat) (y : Int) (hj : (j : Int) < (n : Int)) {z : Nat × Nat} {r : Bool} (hO : (bO, .cells #[.slice (some ⟨gO, 0, none⟩) n n] 22 z, r) ∈ S) (x0 : Value) (hx0 : outs[j]? = some x0)
  (t8 t9 jA jM jU jK jQ jT jY jL jO jR jP jS jW jJ jN jV qA jH jB jE jC jG jI jF jD jX : Value) {i m : Nat} {acc : Value}
  (h : ∀ jA jH jB jE jC jG jI jF jD, Co Try.prog true St m (S ++ [(gO, .cells (outs.setIfInBounds j (.int .i64 y)) 3 (0, 0), true)]) (G ((baseN 101).at (tmM ag nf bs0 bn bO bF bL acc n i t8 t9 jA jM jU jK jQ jT jY jL jO jR jP jS jW jJ jN jV qA (.tuple #[.agg #[.int .i64 j, .int .i64 y], .bool true]) jH jB jE jC jG jI jF jD jX) (.code l101_1 :: .inLoop l101_1 :: K)) cs)) :
  Co Try.prog true St (m + 40) (S ++ [(gO, .cells outs 3 (0, 0), true)]) (G ((baseN 101).at (tmM ag nf bs0 bn bO bF bL acc n i t8 t9 jA jM jU jK jQ jT jY jL jO jR jP jS jW jJ jN jV qA (.tuple #[.agg #[.int .i64 j, .int .i64 y], .bool true]) jH jB jE jC jG jI jF jD jX) (.inRegion c101_11 [1] :: .code (.seq (.cond (Operand.tmp 32) Code.skip (Code.exit 2)) (.block 3 (.seq (.region 12 c101_12 false) (.region 13 c101_13 false)))) :: .inLoop l101_1 :: K)) cs) := by
 have hM := mc_own hS (gO := gO) (outs := outs) (e := 3) (z := (0, 0)) (r := true)
 unfold c101_11
 simp only [tmM, ptr]
 (refine Co.goes rfl fun w hw => goes_oper_e rfl rfl (by decide) fun K E hK hE => ?_; go_simp; refine hK _ _ ⟨_, Chg.refl hw hM, ?_, ?_⟩; (rw [listed_nil (by unfold execOp; simp [go_sem])]; simp); clear hK hE hw K E w; try simp only [nrm, Nat.reduceAdd, Nat.reduceSub])
 refine Co.ctl hM rfl (fun _ => stepG_region_end) ?_
 refine Co.ctl hM rfl (fun _ => stepG_seq) ?_
 refine Co.ctl hM rfl (fun _ => stepG_cond (t := true) ?_) ?_
 ·simp [Act.eval]
 simp only [if_true]
 refine Co.ctl hM rfl (fun _ => stepG_skip) ?_
 refine Co.ctl hM rfl (fun _ => stepG_block) ?_
 refine Co.ctl hM rfl (fun _ => stepG_seq) ?_
 unfold c101_12
 (refine Co.ctl hM rfl (fun _ => stepG_region) ?_; simp only [List.size_toArray, List.length_cons, List.length_nil, Nat.reduceAdd, Nat.zero_add, List.range, List.range.loop])
 (refine Co.goes rfl fun w hw => goes_oper_e rfl rfl (by decide) fun K E hK hE => ?_; go_simp; refine hK _ _ ⟨_, Chg.refl hw hM, ?_, ?_⟩; (rw [listed_nil (by unfold execOp; simp [go_sem])]; simp); clear hK hE hw K E w; try simp only [nrm, Nat.reduceAdd, Nat.reduceSub])
 refine Co.goes rfl fun w hw => goes_oper_e rfl rfl (by decide) fun K E hK hE => ?_
 go_simp
 refine hK _ _ ⟨_, Chg.push hw hM _ _ _, ?_, ?_⟩
 ·rw [listed_nil (by unfold execOp; simp [go_sem])]; simp
 have hbx : ¬ In (S ++ [(gO, .cells outs 3 (0, 0), true)]) w.heap.size := fun h => absurd (hw.lt h) (by omega)
 clear hK hE hw K E
 generalize w.heap.size = bx at hbx ⊢
 clear w
 try simp only [nrm, Nat.reduceAdd, Nat.reduceSub]
 have hM1 := hM.cons bx #[.int .i64 0, .int .i64 0] 156 (0, 0) true
 refine Co.goes rfl fun w hw => goes_oper_e rfl rfl (by decide) fun K E hK hE => ?_
 have hc := Holds.cell hw (b := bx) (i := 0) (v := .int .i64 0) (.head _) rfl
 have hc1 := Holds.cell hw (b := bx) (i := 1) (v := .int .i64 0) (.head _) rfl
 have hf := Holds.frozen hw (b := bx) (i := 0) (.head _)
 have hf1 := Holds.frozen hw (b := bx) (i := 1) (.head _)
 go_simp
 refine hK _ _ ⟨_, Chg.cell2 hw hM hbx, ?_, ?_⟩
 ·intro e he
  replace he := mem_listed he
  unfold execOp at he
  simp [go_sem, hc, hf, hc1, hf1] at he
  rcases he with rfl | rfl
  ·exact okWrite ⟨_, .head _⟩
  ·exact okWrite ⟨_, .head _⟩
 clear hc hf hc1 hf1 hK hE hw K E w
 have hM2 := hM.cons bx #[.int .i64 j, .int .i64 y] 156 (0, 0) true
 refine Co.ctl hM2 rfl (fun _ => stepG_region_end) ?_
 unfold c101_13
 (refine Co.ctl hM2 rfl (fun _ => stepG_region) ?_; simp only [List.size_toArray, List.length_cons, List.length_nil, Nat.reduceAdd, Nat.zero_add, List.range, List.range.loop])
 have hinO : In ((bx, .cells #[.int .i64 j, .int .i64 y] 156 (0, 0), true) :: (S ++ [(gO, .cells outs 3 (0, 0), true)])) bO := ⟨r, _, .tail _ (List.mem_append_left _ hO)⟩
 have hinx : In ((bx, .cells #[.int .i64 j, .int .i64 y] 156 (0, 0), true) :: (S ++ [(gO, .cells outs 3 (0, 0), true)])) bx := ⟨true, _, .head _⟩
 (refine Co.goes rfl fun w hw => goes_oper_e rfl rfl (by decide) fun K E hK hE => ?_; have hc := (Holds.cell hw (i := 0) (v := .slice (some ⟨gO, 0, none⟩) n n) (.tail _ (List.mem_append_left _ hO)) rfl); go_simp; refine hK _ _ ⟨_, Chg.refl hw hM2, ?_, ?_⟩; (intro e he; replace he := mem_listed he; unfold execOp at he; simp [go_sem, hc] at he; subst he; exact okRead (by first | assumption | simp [In, Has])); clear hc hK hE hw K E w; try simp only [nrm, Nat.reduceAdd, Nat.reduceSub])
 (refine Co.goes rfl fun w hw => goes_oper_e rfl rfl (by decide) fun K E hK hE => ?_; go_simp; refine hK _ _ ⟨_, Chg.refl hw hM2, ?_, ?_⟩; (rw [listed_nil (by unfold execOp; simp [go_sem])]; simp); clear hK hE hw K E w; try simp only [nrm, Nat.reduceAdd, Nat.reduceSub])
 (refine Co.goes rfl fun w hw => goes_oper_e rfl rfl (by decide) fun K E hK hE => ?_; have hc := (Holds.cell hw (b := bx) (i := 0) (v := .int .i64 j) (.head _) rfl); go_simp; refine hK _ _ ⟨_, Chg.refl hw hM2, ?_, ?_⟩; (intro e he; replace he := mem_listed he; unfold execOp at he; simp [go_sem, hc] at he; subst he; exact okRead (by first | assumption | simp [In, Has])); clear hc hK hE hw K E w; try simp only [nrm, Nat.reduceAdd, Nat.reduceSub])
 (refine Co.goes rfl fun w hw => goes_oper_e rfl rfl (by decide) fun K E hK hE => ?_; go_simp; refine hK _ _ ⟨_, Chg.refl hw hM2, ?_, ?_⟩; (rw [listed_nil (by unfold execOp; simp [go_sem])]; simp); clear hK hE hw K E w; try simp only [nrm, Nat.reduceAdd, Nat.reduceSub])
 (refine Co.goes rfl fun w hw => goes_oper_e rfl rfl (by decide) fun K E hK hE => ?_; have hc := (Holds.cell hw (b := bx) (i := 1) (v := .int .i64 y) (.head _) rfl); go_simp; refine hK _ _ ⟨_, Chg.refl hw hM2, ?_, ?_⟩; (intro e he; replace he := mem_listed he; unfold execOp at he; simp [go_sem, hc] at he; subst he; exact okRead (by first | assumption | simp [In, Has])); clear hc hK hE hw K E w; try simp only [nrm, Nat.reduceAdd, Nat.reduceSub])
 refine Co.goes rfl fun w hw => goes_oper_e rfl rfl (by decide) fun K E hK hE => ?_
 go_simp
 refine hK _ _ ⟨_, Chg.refl hw hM2, ?_, ?_⟩
 ·rw [listed_nil (by unfold execOp; simp [go_sem]; exact events_indexAt_slice _ _ _ _ _ _ el22 ⟨by omega, hj⟩)]; simp
 clear hK hE hw K E w
 try simp only [nrm, Nat.reduceAdd, Nat.reduceSub]
 refine Co.goes rfl fun w hw => goes_oper_e rfl rfl (by decide) fun K E hK hE => ?_
 have hmem : (gO, Obj.cells outs 3 (0, 0), true) ∈ (bx, Obj.cells #[.int .i64 j, .int .i64 y] 156 (0, 0), true) :: (S ++ [(gO, Obj.cells outs 3 (0, 0), true)]) := by simp
 have hc := Holds.cell hw (b := gO) (i := j) (v := x0) hmem hx0
 have hf := Holds.frozen hw (b := gO) (i := j) hmem
 go_simp
 have hbg : bx ≠ gO := fun e => hbx ⟨true, Obj.cells outs 3 (0, 0), by rw [e]; simp⟩
 refine hK _ _ ⟨_, Chg.weaken (Chg.cell (M1 := (bx, .cells #[.int .i64 j, .int .i64 y] 156 (0, 0), true) :: S) (M2 := []) hw hM2 ⟨fun h => ?_, In.nil⟩) fun y hy => .tail _ hy, ?_, ?_⟩
 ·rcases In.cons.1 h with h | h
  ·exact hbg h.symm
  ·exact hnO h
 ·intro e he
  replace he := mem_listed he
  unfold execOp at he
  simp [go_sem, hc, hf] at he
  subst he
  exact okWrite ⟨_, by simp; exact .inr rfl⟩
 clear hc hf hK hE hw K E w
 have hM3 := mc_own hS (gO := gO) (outs := outs.setIfInBounds j (.int .i64 y)) (e := 3) (z := (0, 0)) (r := true)
 refine Co.ctl hM3 rfl (fun _ => stepG_region_end) ?_
 refine Co.ctl hM3 rfl (fun _ => stepG_inBlock) ?_
 refine Co.ctl hM3 rfl (fun _ => stepG_inLoop) ?_
 exact Co.up (m := 17) (h _ _ _ _ _ _ _ _ _)
theorem nodup_le : ∀ (n : Nat) (l : List Nat), l.Nodup → (∀ x ∈ l, x < n) → l.length ≤ n
 | 0, [], _, _ => Nat.le_refl _
 | 0, x :: l, _, h => absurd (h x (by simp)) (by omega)
 | n + 1, l, hn, h => by
  have h1 := nodup_le n (l.erase n) (hn.erase n) fun x hx => by
   have h2 := (hn.mem_erase_iff).1 hx
   have := h x h2.2
   omega
  rw [List.length_erase] at h1
  split at h1 <;> omega
theorem all_got {n : Nat} {got : List Nat} (hn : got.Nodup) (hlt : ∀ x ∈ got, x < n) (hlen : got.length = n) (j : Nat) (hj : j < n) : j ∈ got := by
 apply Classical.byContradiction
 intro hx
 have := nodup_le n (j :: got) (List.nodup_cons.2 ⟨hx, hn⟩) (fun x hxm => by
  rcases List.mem_cons.1 hxm with rfl | h
  ·exact hj
  ·exact hlt x h)
 simp at this
 omega
noncomputable def rest101 (K : List Item) : List Item := .code (.seq (.cond (Operand.tmp 32) Code.skip (Code.exit 2)) (.block 3 (.seq (.region 12 c101_12 false) (.region 13 c101_13 false)))) :: .inLoop l101_1 :: .inBlock 2 :: K
def Exit101 (ag nf : Value) (bs0 bn bO bF bL gA n gO : Nat) (y : Nat → Int) (S : Mem) (K : List Item) (cs : List Frame) (M : Mem) (g : Goroutine) : Prop :=
 ∃ t8 t9 jA jM jU jK jQ jT jY jL jO jR jP jS jW jJ jN jV qA jZ jH jB jE jC jG jI jF jD jX got, (∀ j, j < n → j ∈ got) ∧ M = S ++ [(gO, .cells (outsOf y n got) 3 (0, 0), true)] ∧
  g = G ((baseN 101).at (tmM ag nf bs0 bn bO bF bL (.slice (some ⟨gA, 0, none⟩) n n) n n t8 t9 jA jM jU jK jQ jT jY jL jO jR jP jS jW jJ jN jV qA (.tuple #[jZ, .bool false]) jH jB jE jC jG jI jF jD jX) (.inRegion c101_11 [1] :: rest101 K)) cs
theorem recv101 (hP : ph.P = Try.prog) (hzF : ph.zF = .agg #[.int .i64 0, .int .i64 0]) {S : Mem} {gO : Nat} {y : Nat → Int} (hS : MC S) (hnO : ¬ In S gO) {z : Nat × Nat} {r : Bool} (hO : (bO, .cells #[.slice (some ⟨gO, 0, none⟩) ph.n ph.n] 22 z, r) ∈ S)
  (hval : ∀ j, j < ph.n → ph.val j = .agg #[.int .i64 j, .int .i64 (y j)]) (hE : ph.Exit = Exit101 ag nf bs0 bn bO bF bL gA ph.n gO y S K cs) :
  ∀ (q : Nat) (got : List Nat), got.Nodup → (∀ j ∈ got, j < ph.n) → got.length + q = ph.n → ∀ t8 t9 jA jM jU jK jQ jT jY jL jO jR jP jS jW jJ jN jV jZ jH jB jE jC jG jI jF jD jX,
   Co Try.prog true (ph.MStop q got) 2 (S ++ [(gO, .cells (outsOf y ph.n got) 3 (0, 0), true)]) (G ((baseN 101).at (tmM ag nf bs0 bn bO bF bL (.slice (some ⟨gA, 0, none⟩) ph.n ph.n) ph.n ph.n t8 t9 jA jM jU jK jQ jT jY jL jO jR jP jS jW jJ jN jV (.chan (some ph.F)) jZ jH jB jE jC jG jI jF jD jX) (.code l101_1 :: .inLoop l101_1 :: .inBlock 2 :: K)) cs)
 | 0, got, hn, hlt, hlen => fun t8 t9 jA jM jU jK jQ jT jY jL jO jR jP jS jW jJ jN jV jZ jH jB jE jC jG jI jF jD jX => by
  have hM := mc_own hS (gO := gO) (outs := outsOf y ph.n got) (e := 3) (z := (0, 0)) (r := true)
  refine head101 (m := 0) hM (Co.stop ?_ 0)
  unfold Ph.MStop
  rw [hP]
  refine ⟨at_recv101 hzF rfl, ?_⟩
  rw [fin_recv101, hE]
  exact ⟨t8, t9, jA, jM, jU, jK, jQ, jT, jY, jL, jO, jR, jP, jS, jW, jJ, jN, jV, .chan (some ph.F), ph.zF, jH, jB, jE, jC, jG, jI, jF, jD, jX, got, fun j hj => all_got hn hlt (by omega) j hj, rfl, rfl⟩
 | q + 1, got, hn, hlt, hlen => fun t8 t9 jA jM jU jK jQ jT jY jL jO jR jP jS jW jJ jN jV jZ jH jB jE jC jG jI jF jD jX => by
  have hM := mc_own hS (gO := gO) (outs := outsOf y ph.n got) (e := 3) (z := (0, 0)) (r := true)
  refine head101 (m := 0) hM (Co.stop ?_ 0)
  unfold Ph.MStop
  rw [hP]
  refine ⟨at_recv101 hzF rfl, fun j hj hjg => ⟨42, ?_⟩⟩
  rw [fin_recv101, hval j hj]
  refine take101 (m := 2) hS hnO j (y j) (by omega) hO (.int .i64 (if j ∈ got then y j else 0)) ?_ _ _ _ _ _ _ _ _ _ _ _ _ _ _ _ _ _ _ _ _ _ _ _ _ _ _ _ _ fun jA jH jB jE jC jG jI jF jD => ?_
  ·simp [outsOf, List.getElem?_range hj]
  ·rw [outsOf_set y ph.n j got hj]
   exact recv101 hP hzF hS hnO hO hval hE q (j :: got) (List.nodup_cons.2 ⟨hjg, hn⟩) (fun x hx => by
    rcases List.mem_cons.1 hx with rfl | hx
    ·exact hj
    ·exact hlt x hx) (by simp; omega) _ _ _ _ _ _ _ _ _ _ _ _ _ _ _ _ _ _ _ _ _ _ _ _ _ _ _ _
end
attribute [local go_sem] events_store_fn
section
variable {ph : Ph} {M : Mem} {cs : List Frame} {K : List Item} {ag nf : Value} {bs0 bn bO bF bL gA n : Nat} {St : Mem → Goroutine → Prop}
noncomputable def o101c : Oper := ⟨none, .go ⟨.value (.tmp 29), #[], #[]⟩, 0, "bold.go:180", #[⟨0, .data⟩], none⟩
theorem goc101 {a : Act} {cap : Array Value} (ha : a.eval (.tmp 29) = .func (.func 119) #[] cap) (w : World) :
  stepG Try.prog true (G ((baseN 101).at a (.inRegion c101_9 [1] :: K)) cs) w = .spawn (G ((baseN 101).at a (.inRegion c101_9 [] :: K)) cs) (born Try.prog { target := .fn (.func 119) cap, args := #[] }) w := by
 have ha' : a.tmps[29]?.getD undef = .func (.func 119) #[] cap := by simpa [Act.eval] using ha
 have hr : (execOp a.eval o101c).run Try.prog w = .ok (.spawn { target := .fn (.func 119) cap, args := #[] }) w := by
  unfold execOp o101c
  simp [go_sem, resolve, Deferred.ofValue, ha']
 have h := stepG_spawn (P := Try.prog) (main := true) (b := baseN 101) (a := a) (k := K) (cs := cs) (w := w) (ops := c101_9) (i := 1) (rest := []) (o := o101c) rfl rfl (by decide) hr rfl
 rw [h]
 have e : listed Try.prog (baseN 101).fn a o101c w = #[] := listed_nil (by
  unfold execOp o101c
  simp [go_sem, resolve, Deferred.ofValue, ha'])
 rw [e]
 rfl
theorem tail101 (hM : MC M) {z : Nat × Nat} {r : Bool} {F : Nat} (hF : (bF, .cells #[.chan (some F)] 151 z, r) ∈ M) (t8 t9 jA jE jT jC jL jR jZ jD jJ jO jK jP jX jB jG jU qA jQ jV jF jM jH jS jW jN jI jY : Value) {acc : Value} {i m : Nat}
  (h : Co Try.prog true St m M (G ((baseN 101).at (tmM ag nf bs0 bn bO bF bL acc n i t8 t9 jA jE jT jC jL jR jZ jD jJ jO jK jP jX jB jG jU (.chan (some F)) jQ jV jF jM jH jS jW jN jI jY) (.code l101_1 :: .inLoop l101_1 :: .inBlock 2 :: .code (.seq (.region 14 c101_14 false) Code.ret) :: K)) cs)) :
  Co Try.prog true St (m + 10) M (G ((baseN 101).at (tmM ag nf bs0 bn bO bF bL acc n i t8 t9 jA jE jT jC jL jR jZ jD jJ jO jK jP jX jB jG jU qA jQ jV jF jM jH jS jW jN jI jY) (.inRegion c101_9 [] :: .code (.seq (.seq (.region 10 c101_10 false) (.block 2 (.loop l101_1))) (.seq (.region 14 c101_14 false) Code.ret)) :: K)) cs) := by
 refine Co.ctl hM rfl (fun _ => stepG_region_end) ?_
 refine Co.ctl hM rfl (fun _ => stepG_seq) ?_
 refine Co.ctl hM rfl (fun _ => stepG_seq) ?_
 unfold c101_10
 (refine Co.ctl hM rfl (fun _ => stepG_region) ?_; simp only [List.size_toArray, List.length_cons, List.length_nil, Nat.reduceAdd, Nat.zero_add, List.range, List.range.loop])
 simp only [tmM, ptr]
 have hin : In M bF := ⟨r, _, hF⟩
 (refine Co.goes rfl fun w hw => goes_oper_e rfl rfl (by decide) fun K E hK hE => ?_; have hc := (Holds.cell hw (i := 0) (v := .chan (some F)) hF rfl); go_simp; refine hK _ _ ⟨_, Chg.refl hw hM, ?_, ?_⟩; (intro e he; replace he := mem_listed he; unfold execOp at he; simp [go_sem, hc] at he; subst he; exact okRead (by first | assumption | simp [In, Has])); clear hc hK hE hw K E w; try simp only [nrm, Nat.reduceAdd, Nat.reduceSub])
 refine Co.ctl hM rfl (fun _ => stepG_region_end) ?_
 refine Co.ctl hM rfl (fun _ => stepG_block) ?_
 refine Co.ctl hM rfl (fun _ => stepG_loop) ?_
 exact Co.up (m := 2) h
theorem close101 (hP : ph.P = Try.prog) (hzL : ph.zL = .bool false) {l : List (Int × Option Int)} {bs gO : Nat} {S : Mem} {outs : Array Value} {z : Nat × Nat} (hS : Sh ph nf l bn bO bF bL gA bs gO S) (hbig : ph.n < 1000)
  (t8 t9 jA jE jT jC jL jR jZ jD jJ jO jK jP jX jB jG jU qA jQ jV jF jM jH jS jW jN jI jY : Value) {acc : Value} {i m : Nat}
  (h : ∀ jU, Co Try.prog true (ph.MStop ph.n []) m (S ++ [(gO, .cells outs 3 z, true)]) (G ((baseN 101).at (tmM ag nf bs0 bn bO bF bL acc n i t8 t9 jA jE jT jC jL jR jZ jD jJ jO jK jP jX jB jG jU (.chan (some ph.F)) jQ jV jF jM jH jS jW jN jI jY) (.code l101_1 :: .inLoop l101_1 :: .inBlock 2 :: .code (.seq (.region 14 c101_14 false) Code.ret) :: K)) cs)) :
  Co Try.prog true (ph.SStop 0) 50 (S ++ [(gO, .cells outs 3 z, true)]) (G ((baseN 101).at (tmM ag nf bs0 bn bO bF bL acc n i t8 t9 jA jE jT jC jL jR jZ jD jJ jO jK jP jX jB jG jU qA jQ jV jF jM jH jS jW jN jI jY)
   (.code (.seq (.region 9 c101_9 false) (.seq (.seq (.region 10 c101_10 false) (.block 2 (.loop l101_1))) (.seq (.region 14 c101_14 false) Code.ret))) :: K)) cs) := by
 have hMc := mc_own hS.mc (gO := gO) (outs := outs) (e := 3) (z := z) (r := true)
 refine Co.ctl hMc rfl (fun _ => stepG_seq) ?_
 have e9 : c101_9 = #[⟨some 29, .makeFunc (.func 119) #[] #[.tmp 5, .tmp 7, .tmp 6], 1, "bold.go:180", #[], none⟩, o101c] := rfl
 refine Co.ctl hMc rfl (fun _ => stepG_region) ?_
 simp only [show List.range c101_9.size = [0, 1] from rfl]
 simp only [tmM, ptr]
 refine Co.goes rfl fun w hw => goes_oper_e (o := ⟨some 29, .makeFunc (.func 119) #[] #[.tmp 5, .tmp 7, .tmp 6], 1, "bold.go:180", #[], none⟩) rfl rfl (by decide) fun K E hK hE => ?_
 go_simp
 refine hK _ _ ⟨_, Chg.refl hw hMc, ?_, ?_⟩
 ·rw [listed_nil (by unfold execOp; simp [go_sem])]; simp
 clear hK hE hw K E w
 try simp only [nrm, Nat.reduceAdd, Nat.reduceSub]
 refine Co.stop ⟨rfl, fun w hw => ⟨_, _, by rw [hP]; exact goc101 rfl w, S, S ++ [(gO, .cells outs 3 z, true)], ?_, ?_, ?_⟩⟩ _
 ·have hnS : ∀ b, ¬ Has S b true := fun b ⟨o, h⟩ => by have := hS.ro b o true h; cases this
  have hT : ∀ b, Has (S ++ [(gO, .cells outs 3 z, true)]) b true → b = gO := fun b ⟨o, h⟩ => by
   simp only [List.mem_append, List.mem_singleton, Prod.mk.injEq] at h
   rcases h with h | ⟨h, _⟩
   ·exact absurd ⟨o, h⟩ (hnS b)
   ·exact h
  exact ⟨fun b hb => absurd hb (hnS b), fun b ⟨o, h⟩ => ⟨⟨false, o, List.mem_append_left _ h⟩, fun hx => hS.nO ⟨false, o, hT b hx ▸ h⟩⟩, fun b r hb => .inl hb, fun w' hw' => ⟨fun b o r h => hw' b o r (List.mem_append_left _ h), hw'⟩⟩
 ·obtain ⟨zF, hF⟩ := hS.hF
  obtain ⟨zL, hL⟩ := hS.hL
  obtain ⟨zO, hO⟩ := hS.hO
  exact closer119 hP hzL (cp := ph.n) ⟨hS.mc, ⟨zF, false, hF⟩, ⟨zL, false, hL⟩, ⟨zO, false, hO⟩⟩ hbig
 ·obtain ⟨zF, hF⟩ := hS.hF
  refine ⟨m + 10, ?_⟩
  rw [hP]
  exact tail101 hMc (List.mem_append_left _ hF) t8 t9 jA jE jT jC jL jR jZ jD jJ jO jK jP jX jB jG _ qA jQ jV jF jM jH jS jW jN jI jY (h _)
end
structure Fr (w w' : World) : Prop where
 os : w'.os = w.os
 output : w'.output = w.output
 size : w.heap.size ≤ w'.heap.size
 same : ∀ k, k < w.heap.size → w'.heap[k]? = w.heap[k]?
theorem Fr.trans {a b c : World} (h : Fr a b) (k : Fr b c) : Fr a c := ⟨k.os.trans h.os, k.output.trans h.output, Nat.le_trans h.size k.size, fun i hi => (k.same i (Nat.lt_of_lt_of_le hi h.size)).trans (h.same i hi)⟩
theorem Fr.of_below {w w' : World} (h : Below w.heap.size w w') : Fr w w' := ⟨h.os, h.output, h.size, h.block⟩
theorem Row.calls_of_runs {R : Row} {f : FuncId} {fn : Func} {c : Code} {args : Array Value} {w0 : World} {K : Value → World → Prop} (hf : R.P.funcs[f]? = some fn) (hb : fn.body = some c)
  (h : PlainW w0 → ∀ cs, (∀ a' w1, a'.defers = [] → (∃ v, (results fn a'.tmps).run R.P w1 = .ok v w1 ∧ K v w1) → PlainW w1 → ∀ todo, (∀ x ∈ todo, OkItem R.P x) → R.Runs { (baseN f).at a' todo with mode := .returning } cs w1) →
   R.Runs ((baseN f).at { tmps := args ++ Array.replicate (fn.ntmps - args.size) undef, defers := [] } [.code c]) cs w0) : R.Calls f args w0 K := by
 intro hp cs hK
 have henter : Frame.enter R.P f args .normal = (baseN f).at { tmps := args ++ Array.replicate (fn.ntmps - args.size) undef, defers := [] } [.code c] := by
  simp [Frame.enter, Frame.at, hf, hb, baseN]
 rw [henter]
 refine h hp cs fun a' w1 hd ⟨v, hr, hv⟩ hp1 todo hx => ?_
 exact hK _ v w1 rfl ⟨rfl, hd, rfl, fn, hf, hr⟩ ⟨hx, by simp [Frame.at, hd], rfl, .inl rfl⟩ hp1 hv
section
variable {R : Row} {cs : List Frame} {ag nf : Value} {bs0 bn bO bF bL gA n : Nat}
theorem okc {c : Code} (h : okCode Try.prog c = true) : OkItem Try.prog (.code c) := h
theorem Reach.go {P : Program} {b : Frame} {cs : List Frame} {k k' k2 : List Item} {N : Act → World → Prop} {a a2 : Act} {w w2 : World} {es : Array Event} (hs : stepG P true (G (b.at a k) cs) w = .go (G (b.at a2 k2) cs) w2 es) (h : Reach P b cs k' N k2 a2 w2) : Reach P b cs k' N k a w := by
 obtain ⟨a3, w3, hn, ht⟩ := h
 refine ⟨a3, w3, hn, .head (step_lone_go ?_) ht⟩
 show (stepG P true (G (b.at a k) cs) w).bare = _
 rw [hs]; rfl
theorem after101 (hP : R.P = Try.prog) {w1 : World} (hp : PlainW w1) {acc v : Value} {i : Nat} {z : Nat × Nat} {g : Nat} (hv : v = .slice (some ⟨g, 0, none⟩) n n) (hbO : w1.heap[bO]? = some (.cells #[v] 22 z)) (t8 t9 jA jE jT jC jL jR jZ jD jJ jO jK jP jX jB jG jU qA jQ jV jF jM jH jS jW jN jI jY : Value)
  (h : ∀ a' w', w'.heap = w1.heap → w'.os = w1.os → w'.output = w1.output → a'.defers = [] → (results Try.f101 a'.tmps).run R.P w' = .ok v w' → PlainW w' → ∀ todo, (∀ x ∈ todo, OkItem R.P x) → R.Runs { (baseN 101).at a' todo with mode := .returning } cs w') :
  R.Runs ((baseN 101).at (tmM ag nf bs0 bn bO bF bL acc n i t8 t9 jA jE jT jC jL jR jZ jD jJ jO jK jP jX jB jG jU qA (.tuple #[jQ, .bool false]) jV jF jM jH jS jW jN jI jY) (.inRegion c101_11 [1] :: rest101 [.code (.seq (.region 14 c101_14 false) Code.ret)])) cs w1 := by
 have hok : ∀ x ∈ (Item.inRegion c101_11 [1] :: rest101 [.code (.seq (.region 14 c101_14 false) Code.ret)]), OkItem R.P x := by
  rw [hP]
  intro x hx
  simp only [rest101, List.mem_cons, List.not_mem_nil, or_false] at hx
  rcases hx with rfl | rfl | rfl | rfl | rfl
  ·show (Array.all _ _) = true; kernel_rfl
  ·exact okc (by kernel_rfl)
  ·show okCode _ _ = true; kernel_rfl
  ·exact True.intro
  ·exact okc (by kernel_rfl)
 refine Row.reach (b := baseN 101) (k' := [.code .ret]) (N := fun a' w' => w'.heap = w1.heap ∧ w'.os = w1.os ∧ w'.output = w1.output ∧ a'.defers = [] ∧ (results Try.f101 a'.tmps).run Try.prog w' = .ok v w') rfl hok hp (by simp [AOk, tmM]) (fun τ d => ?_) (fun a' w' hN hp' ha' hk' => ?_)
 rotate_left
 ·obtain ⟨h1, h2, h3, h4, h5⟩ := hN
  refine Row.Runs.go (new := []) (okFrame_at rfl ha' hk') (by simp) rfl hp' (.inr rfl) fun τ d => ⟨{ (baseN 101).at a' [.code .ret] with mode := .returning }, [], w'.on τ d, #[], fun cs => stepG_ret', fun _ _ _ => frame_on (h a' w' h1 h2 h3 h4 (by rw [hP]; exact h5) hp' _ hk')⟩
 ·rw [hP]
  have hc : (w1.on τ d).cell? ⟨bO, 0, none⟩ = some v := by
   have e : (w1.on τ d).heap[bO]? = some (.cells #[v] 22 z) := hbO
   simp [World.cell?, e]
  generalize hw : w1.on τ d = w at hc
  have e1 : w.heap = w1.heap := by rw [← hw]; rfl
  have e2 : w.os = w1.os := by rw [← hw]; rfl
  have e3 : w.output = w1.output := by rw [← hw]; rfl
  clear hw
  subst hv
  refine Reach.go (stepG_value (main := true) (b := baseN 101) (ops := c101_11) (i := 1) (rest := []) (o := ⟨some 32, .extract (.tmp 31) 1, 4, "bold.go:186", #[⟨0, .data⟩], none⟩) (v := .bool false) (w' := w) rfl rfl (by decide) ?_) ?_
  ·unfold execOp
   simp [go_sem, tmM]
  refine Reach.go stepG_region_end ?_
  unfold rest101
  refine Reach.go stepG_seq (Reach.go (stepG_cond (t := false) ?_) ?_)
  ·simp [tmM, Act.put, Act.eval]
  simp only [Bool.false_eq_true, if_false]
  refine Reach.go (stepG_exit rfl) (Reach.seq (Reach.code fun K hK => ?_))
  unfold c101_14
  simp only [tmM, ptr, Act.put]
  go_wp2
  refine hK _ _ (Reach.done ⟨e1, e2, e3, rfl, ?_⟩)
  exact (results_tmp (fn := Try.f101) (t := 4) rfl _ _ _)
end
end Go.Ov
namespace Go.Ov
open Go.Conc
def To (P : Program) (cs : List Frame) (X : Frame → World → Prop) (fr : Frame) (w : World) : Prop := ∃ fr' w', X fr' w' ∧ Steps P (lone fr cs w) (lone fr' cs w')
section
variable {P : Program} {b : Frame} {cs : List Frame} {X : Frame → World → Prop} {k k2 : List Item} {a a2 : Act} {w w2 : World}
theorem To.here {fr : Frame} (h : X fr w) : To P cs X fr w := ⟨fr, w, h, .refl _ _⟩
theorem To.go {fr fr2 : Frame} {es : Array Event} (h : To P cs X fr2 w2) (hs : stepG P true (G fr cs) w = .go (G fr2 cs) w2 es) : To P cs X fr w := by
 obtain ⟨fr3, w3, hn, ht⟩ := h
 refine ⟨fr3, w3, hn, .head (step_lone_go ?_) ht⟩
 show (stepG P true (G fr cs) w).bare = _
 rw [hs]; rfl
theorem To.seq {x y : Code} (h : To P cs X (b.at a (.code x :: .code y :: k)) w) : To P cs X (b.at a (.code (.seq x y) :: k)) w := h.go stepG_seq
theorem To.block {i : Nat} {x : Code} (h : To P cs X (b.at a (.code x :: .inBlock i :: k)) w) : To P cs X (b.at a (.code (.block i x) :: k)) w := h.go stepG_block
theorem To.inBlock {i : Nat} (h : To P cs X (b.at a k) w) : To P cs X (b.at a (.inBlock i :: k)) w := h.go stepG_inBlock
theorem To.loop {x : Code} (h : To P cs X (b.at a (.code x :: .inLoop x :: k)) w) : To P cs X (b.at a (.code (.loop x) :: k)) w := h.go stepG_loop
theorem To.inLoop {x : Code} (h : To P cs X (b.at a (.code x :: .inLoop x :: k)) w) : To P cs X (b.at a (.inLoop x :: k)) w := h.go stepG_inLoop
theorem To.skip (h : To P cs X (b.at a k) w) : To P cs X (b.at a (.code .skip :: k)) w := h.go stepG_skip
theorem To.cond (t : Bool) {c : Operand} {x y : Code} (hc : a.eval c = .bool t) (h : To P cs X (b.at a (.code (if t then x else y) :: k)) w) : To P cs X (b.at a (.code (.cond c x y) :: k)) w := h.go (stepG_cond hc)
theorem To.yes {c : Operand} {x y : Code} (hc : a.eval c = .bool true) (h : To P cs X (b.at a (.code x :: k)) w) : To P cs X (b.at a (.code (.cond c x y) :: k)) w := To.cond true hc h
theorem To.no {c : Operand} {x y : Code} (hc : a.eval c = .bool false) (h : To P cs X (b.at a (.code y :: k)) w) : To P cs X (b.at a (.code (.cond c x y) :: k)) w := To.cond false hc h
theorem To.exit {i : Nat} (hk : exitTo i k = some k2) (h : To P cs X (b.at a k2) w) : To P cs X (b.at a (.code (.exit i) :: k)) w := h.go (stepG_exit hk)
theorem To.code {x : Code} (h : ∀ K : Act → World → Prop, (∀ a w, To P cs X (b.at a k) w → K a w) → x.wp P (Ends2 K fun _ _ => False) a w) : To P cs X (b.at a (.code x :: k)) w := by
 obtain ⟨e, a1, w1, hq, harr⟩ := h _ (fun _ _ h => h) b k cs
 cases e with
 | normal =>
  obtain ⟨fr2, w2, hn, hs⟩ := hq
  exact ⟨fr2, w2, hn, Steps.trans harr hs⟩
 | _ => exact hq.elim
end
def Out (P : Program) (f : FuncId) (R : Value → World → Prop) (fr : Frame) (w' : World) : Prop := fr.fn = f ∧ ∃ v, fr.leaving P w' (.returned v) ∧ R v w'
section
variable {P : Program} {cs : List Frame} {f : FuncId} {fn : Func} {R : Value → World → Prop} {k : List Item} {a : Act} {w : World}
theorem To.ret {v : Value} (hf : P.funcs[f]? = some fn) (hd : a.defers = []) (hr : (results fn a.tmps).run P w = .ok v w) (hR : R v w) : To P cs (Out P f R) ((baseN f).at a (.code .ret :: k)) w :=
 (To.here (P := P) (cs := cs) (X := Out P f R) (fr := { (baseN f).at a (.code .ret :: k) with mode := .returning }) ⟨rfl, v, ⟨rfl, hd, rfl, fn, hf, hr⟩, hR⟩).go stepG_ret'
theorem To.fall {v : Value} (hf : P.funcs[f]? = some fn) (hd : a.defers = []) (hr : (results fn a.tmps).run P w = .ok v w) (hR : R v w) : To P cs (Out P f R) ((baseN f).at a []) w :=
 (To.here (P := P) (cs := cs) (X := Out P f R) (fr := { (baseN f).at a [] with mode := .returning }) ⟨rfl, v, ⟨rfl, hd, rfl, fn, hf, hr⟩, hR⟩).go stepG_end
theorem calls_of_to {c : Code} {args : Array Value} {tmps : Array Value} (hf : P.funcs[f]? = some fn) (hb : fn.body = some c) (ht : args ++ Array.replicate (fn.ntmps - args.size) undef = tmps) (h : ∀ cs, To P cs (Out P f R) ((baseN f).at { tmps := tmps, defers := [] } [.code c]) w) :
  Calls P f args w fun e w' => ∃ v, e = .returned v ∧ R v w' := by
 intro cs
 obtain ⟨fr, w', ⟨h1, v, h2, h3⟩, hs⟩ := h cs
 refine ⟨.returned v, w', fr, ⟨v, rfl, h3⟩, ?_, h1, h2⟩
 have henter : Frame.enter P f args .normal = (baseN f).at { tmps := tmps, defers := [] } [.code c] := by
  simp [Frame.enter, Frame.at, hf, hb, baseN, ← ht]
 rw [henter]
 exact hs
end
end Go.Ov
namespace Go.Proofs.YtfgedbakbljgfaaW.PrintWords
open Go.RowKit
structure Aside0 (p : Prop) : Prop where mk :: (out : p)
structure Drawn0 (w w' : World) : Prop where mk :: (out : ∃ n, w' = w.drewN n)
theorem Drawn0.refl (w : World) : Drawn0 w w := ⟨⟨0, rfl⟩⟩
theorem Drawn0.step {w w' : World} (h : Drawn0 w w') (n : Nat) : Drawn0 w (w'.drewN n) := by
 obtain ⟨m, rfl⟩ := h
 exact ⟨⟨m + n, World.drewN_drewN ..⟩⟩
theorem Drawn0.below {w w' : World} (h : Drawn0 w w') : Below w.heap.size w w' := by
 obtain ⟨n, rfl⟩ := h
 induction n with
 | zero => exact Below.refl _ _
 | succ n ih => rw [← World.drew_drewN]; exact ih.drew
def rd (xs : List Int) (i : Int) : Int := xs.getD i.toNat 0
def nums (k : IntKind) (xs : List Int) : List Value := xs.map fun x => .int k x
def bools (xs : List Bool) : List Value := xs.map fun x => .bool x
theorem nums_length (k : IntKind) (xs : List Int) : (nums k xs).length = xs.length := by simp [nums]
theorem nums_append (k : IntKind) (xs ys : List Int) : nums k (xs ++ ys) = nums k xs ++ nums k ys := by simp [nums]
theorem below_alloc {w W : World} (h : Below w.heap.size w W) (o : Obj) : Below w.heap.size w (W.alloc o) := h.alloc h.size o
theorem below_drew {B : Nat} {w W : World} (h : Below B w W) : Below B w W.drew := ⟨h.os, h.tape, h.output, h.size, h.block⟩
theorem pw_below_drewN {B : Nat} {w W : World} (h : Below B w W) (n : Nat) : Below B w (W.drewN n) := ⟨h.os, h.tape, h.output, h.size, h.block⟩
theorem below_then {B : Nat} {w w1 w2 : World} (h : Below B w w1) (hB : B ≤ w1.heap.size) (k : Below w1.heap.size w1 w2) : Below B w w2 :=
 h.trans ⟨k.os, k.tape, k.output, k.size, fun i hi => k.block i (Nat.lt_of_lt_of_le hi hB)⟩
theorem grown_of_below {w w1 : World} (h : Below w.heap.size w w1) (row : Option Nat) : w.grownBy w1 row := ⟨h.os, h.tape, h.output, h.size, fun i hi _ => h.block i hi⟩
theorem pw_cell_below {w w1 : World} (h : Below w.heap.size w w1) {a : Addr} {v : Value} (hc : w.cell? a = some v) : w1.cell? a = some v := (h.cell (World.block_lt_of_cell? w a hc)).trans hc
theorem add_plain (g j : Nat) : (⟨g, 0, none⟩ : Addr).add j = ⟨g, j, none⟩ := by unfold Addr.add; split <;> simp_all
def ReadsInt (w : World) (k : IntKind) (A : Option Addr) (n : Nat) (xs : List Int) : Prop :=
 xs.length = n ∧ n ≤ 9223372036854775807 ∧ (0 < n → ∃ ad, A = some ad ∧ ∀ j, j < n → w.cell? (ad.add j) = some (.int k (xs.getD j 0)))
theorem ReadsInt.at_ {w : World} {k : IntKind} {A : Option Addr} {n : Nat} {xs : List Int} (h : ReadsInt w k A n xs) (i : Int) (h0 : 0 ≤ i) (h1 : i < n) : ∃ ad, A = some ad ∧ w.cell? (ad.add i.toNat) = some (.int k (rd xs i)) := by
 obtain ⟨ad, e, hc⟩ := h.2.2 (by omega)
 exact ⟨ad, e, hc _ (by omega)⟩
theorem own_nil (W : World) (base : Nat) (e : TypeId) (size : Nat) : W.ownsRow base e size (.slice none 0 0) 0 [] := ⟨by simp, .inl ⟨rfl, rfl⟩⟩
theorem own_base {w : World} {base : Nat} {e : TypeId} {size n : Nat} {v : Value} {xs : List Value} (h : w.ownsRow base e size v n xs) (k : Nat) (hk : v.ownBlock = some k) : base ≤ k := by
 rcases h.2 with ⟨rfl, _⟩ | ⟨g, cap, cur, rfl, hb, _⟩
 ·simp [Value.ownBlock] at hk
 ·have : g = k := by simpa [Value.ownBlock] using hk
  omega
theorem own_lt {w : World} {base : Nat} {e : TypeId} {size n : Nat} {v : Value} {xs : List Value} (h : w.ownsRow base e size v n xs) (k : Nat) (hk : v.ownBlock = some k) : k < w.heap.size := by
 rcases h.2 with ⟨rfl, _⟩ | ⟨g, cap, cur, rfl, hb, hh, _⟩
 ·simp [Value.ownBlock] at hk
 ·have : g = k := by simpa [Value.ownBlock] using hk
  subst this
  exact (Array.getElem?_eq_some_iff.1 hh).1
theorem pw_own_below {w w1 : World} {base : Nat} {e : TypeId} {size n : Nat} {v : Value} {xs : List Value} (h : w.ownsRow base e size v n xs) (hb : Below w.heap.size w w1) : w1.ownsRow base e size v n xs :=
 h.kept (grown_of_below hb none) (by cases v.ownBlock <;> simp)
theorem own_other {w w1 : World} {base : Nat} {e : TypeId} {size n : Nat} {v : Value} {xs : List Value} (h : w.ownsRow base e size v n xs) {row : Option Nat} (hg : w.grownBy w1 row) (hne : v.ownBlock = none ∨ v.ownBlock ≠ row) : w1.ownsRow base e size v n xs := h.kept hg hne
theorem own_reads {w : World} {base n : Nat} {e : TypeId} {k : IntKind} {v : Value} {xs : List Int} (h : w.ownsRow base e 1 v n (nums k xs)) : ∃ A c, v = .slice A n c ∧ ReadsInt w k A n xs := by
 have hl : xs.length = n := by have := h.1; simp [nums] at this; exact this
 rcases Nat.eq_zero_or_pos n with h0 | h0
 ·rcases h.2 with ⟨rfl, rfl⟩ | ⟨g, cap, cur, rfl, _⟩
  ·exact ⟨none, 0, rfl, hl, by omega, fun hp => absurd hp (by omega)⟩
  ·exact ⟨_, cap, rfl, hl, by omega, fun hp => absurd hp (by omega)⟩
 ·obtain ⟨g, cap, rfl, _, _⟩ := h.form h0
  have hm : n ≤ 9223372036854775807 := by
   rcases h.2 with ⟨_, h1⟩ | ⟨g', cap', cur, he, _, _, h1, h2, _⟩
   ·omega
   ·simp only [maxLen] at h2
    omega
  refine ⟨_, cap, rfl, hl, hm, fun _ => ⟨_, rfl, fun j hj => h.cells (g := g) rfl j _ ?_⟩⟩
  simp [nums, List.getElem?_eq_getElem (show j < xs.length by omega), List.getD_eq_getElem?_getD]
theorem own_slice {w : World} {base n : Nat} {e : TypeId} {size : Nat} {v : Value} {xs : List Value} (h : w.ownsRow base e size v n xs) : ∃ A c, v = .slice A n c := by
 rcases h.2 with ⟨rfl, rfl⟩ | ⟨g, cap, cur, rfl, _⟩
 ·exact ⟨none, 0, rfl⟩
 ·exact ⟨_, cap, rfl⟩
section
variable {P : Program} {ops : Array Oper} {rest : List Oper} {o : Oper} {a : Act} {Q : Exit → Act → World → Prop}
theorem print_append {w0 W : World} (base : Nat) (hgd : o.guard = none) (s x : Operand) (t e : TypeId) (z : Value) (bytes : Nat)
  (ho : o.op = .call { callee := .builtin .append, args := #[s, x], argTypes := #[t, t] })
  (ht : P.underlying t = some (.slice e)) (hinfo : (P.info? e).map (fun i => (i.zero, i.size, i.bytes)) = some (some z, 1, bytes)) (hz : z.cells.size = 1) (hb0 : 0 < bytes)
  (v : Value) (xs : List Value) (y : Value) (hs : a.eval s = v) (hx : a.eval x = .slice (some ⟨W.heap.size, 0, none⟩) 1 1) (h1 : y.oneCell' = true)
  (HO : W.ownsRow base e 1 v xs.length xs) (HB : Below base w0 W) (hbase : base ≤ W.heap.size) (hl : (xs.length + 1) * bytes ≤ 140737488355328)
  (h : ∀ v1 w1, w1.ownsRow base e 1 v1 (xs ++ [y]).length (xs ++ [y]) → Below base w0 w1 → W.grownBy w1 v.ownBlock → (v1.ownBlock = v.ownBlock ∨ ∃ b, v1.ownBlock = some b ∧ W.heap.size ≤ b) → wpList P ops Q rest (a.put o.dst v1) w1) :
  wpList P ops Q (o :: rest) a (W.alloc (.cells #[y] e)) := by
 obtain ⟨i0, hi, hzz⟩ := Option.map_eq_some_iff.1 hinfo
 simp only [Prod.mk.injEq] at hzz
 obtain ⟨hz0, hz1, hz2⟩ := hzz
 have hlen : xs.length + 1 ≤ 140737488355328 := Nat.le_trans (Nat.le_mul_of_pos_right _ hb0) hl
 refine wpList_append_own_at (W.alloc (.cells #[y] e)) hgd s x t ho base e i0 z 1 bytes ht hi hz0 hz1 hz2 hz (by omega) v xs.length xs hs (HO.alloc _) ⟨W.heap.size, 0, none⟩ 1 1 [y] hx rfl
  (World.news_of_block (cs := #[y]) (t := e) (fr := (0, 0)) (heap_alloc_new W _)) (by simpa using h1) (by simp only [maxLen]; omega) hl (by simp; omega) ?_
 intro v1 w1 hown hg _ hat
 refine h v1 w1 (by simpa using hown) ((HB.alloc hbase _).grown hg (by simp; omega) (own_base HO)) (World.grownBy.trans (World.grownBy_alloc W _ _) hg) ?_
 rcases hat with hat | hat
 ·exact .inl hat
 ·exact .inr ⟨_, hat, by simp⟩
theorem print_append_num {w0 W : World} (base : Nat) (hgd : o.guard = none) (s x : Operand) (t e : TypeId) (k : IntKind) (bytes : Nat)
  (ho : o.op = .call { callee := .builtin .append, args := #[s, x], argTypes := #[t, t] })
  (ht : P.underlying t = some (.slice e)) (hinfo : (P.info? e).map (fun i => (i.zero, i.size, i.bytes)) = some (some (.int k 0), 1, bytes)) (hb0 : 0 < bytes)
  (v : Value) (xs : List Int) (y : Int) (hs : a.eval s = v) (hx : a.eval x = .slice (some ⟨W.heap.size, 0, none⟩) 1 1)
  (HO : W.ownsRow base e 1 v xs.length (nums k xs)) (HB : Below base w0 W) (hbase : base ≤ W.heap.size) (hl : (xs.length + 1) * bytes ≤ 140737488355328)
  (h : ∀ v1 w1, w1.ownsRow base e 1 v1 (xs ++ [y]).length (nums k (xs ++ [y])) → Below base w0 w1 → W.grownBy w1 v.ownBlock → (v1.ownBlock = v.ownBlock ∨ ∃ b, v1.ownBlock = some b ∧ W.heap.size ≤ b) → wpList P ops Q rest (a.put o.dst v1) w1) :
  wpList P ops Q (o :: rest) a (W.alloc (.cells #[.int k y] e)) :=
 print_append base hgd s x t e (.int k 0) bytes ho ht hinfo rfl hb0 v (nums k xs) (.int k y) hs hx rfl (by rw [nums_length]; exact HO) HB hbase (by rw [nums_length]; exact hl)
  fun v1 w1 hown hB hg hat => h v1 w1 (by simpa [nums] using hown) hB hg hat
end
def Reps {α : Type} (R : α → List Value → Prop) (size : Nat) (ps : List α) (cs : List Value) : Prop :=
 cs.length = ps.length * size ∧ ∀ j p, ps[j]? = some p → R p ((cs.drop (j * size)).take size)
theorem Reps.none {α : Type} (R : α → List Value → Prop) (size : Nat) : Reps R size [] [] := ⟨by simp, fun j p h => by simp at h⟩
theorem Reps.snoc {α : Type} {R : α → List Value → Prop} {size : Nat} {ps : List α} {cs c : List Value} {p : α} (h : Reps R size ps cs) (hp : R p c) (hc : c.length = size) : Reps R size (ps ++ [p]) (cs ++ c) := by
 refine ⟨by rw [List.length_append, h.1, hc, List.length_append, List.length_singleton, Nat.add_mul, Nat.one_mul], fun j q hq => ?_⟩
 rcases Nat.lt_or_ge j ps.length with hj | hj
 ·rw [List.getElem?_append_left hj] at hq
  have h1 : j * size + size ≤ cs.length := by rw [h.1, ← Nat.succ_mul]; exact Nat.mul_le_mul_right _ hj
  have h2 := h.2 j q hq
  rw [List.drop_append_of_le_length (by omega), List.take_append_of_le_length (by rw [List.length_drop]; omega)]
  exact h2
 ·have hj' : j = ps.length := by
   have := (List.getElem?_eq_some_iff.1 hq).1
   rw [List.length_append, List.length_singleton] at this
   omega
  subst hj'
  have hq' : p = q := by simpa using hq
  subst hq'
  rw [← h.1, List.drop_left, ← hc, List.take_length]
  exact hp
theorem Reps.imp_ {α : Type} {R R' : α → List Value → Prop} {size : Nat} {ps : List α} {cs : List Value} (h : Reps R size ps cs) (hR : ∀ p c, R p c → R' p c) : Reps R' size ps cs := ⟨h.1, fun j p hj => hR _ _ (h.2 j p hj)⟩
def ReadsRow {α : Type} (R : α → List Value → Prop) (size : Nat) (w : World) (A : Option Addr) (n : Nat) (ps : List α) : Prop :=
 ps.length = n ∧ n ≤ 9223372036854775807 ∧ (0 < n → ∃ ad, A = some ad ∧ ∀ j p, ps[j]? = some p → ∃ c, c.length = size ∧ R p c ∧ ∀ i u, c[i]? = some u → w.cell? (ad.add (j * size + i)) = some u)
theorem ReadsRow.get_ {α : Type} {R : α → List Value → Prop} {size : Nat} {w : World} {A : Option Addr} {n : Nat} {ps : List α} (h : ReadsRow R size w A n ps) (d : α) (i : Int) (h0 : 0 ≤ i) (h1 : i < n) :
  ∃ ad c, A = some ad ∧ c.length = size ∧ R (ps.getD i.toNat d) c ∧ ∀ j u, c[j]? = some u → w.cell? (ad.add (i.toNat * size + j)) = some u := by
 obtain ⟨ad, e, hc⟩ := h.2.2 (by omega)
 have hl : i.toNat < ps.length := by have := h.1; omega
 obtain ⟨c, hs, hr, hcell⟩ := hc i.toNat _ (List.getElem?_eq_getElem hl)
 refine ⟨ad, c, e, hs, ?_, hcell⟩
 rw [List.getD_eq_getElem?_getD, List.getElem?_eq_getElem hl]
 exact hr
theorem ReadsRow.imp_ {α : Type} {R R' : α → List Value → Prop} {size : Nat} {w w1 : World} {A : Option Addr} {n : Nat} {ps : List α} (h : ReadsRow R size w A n ps) (hb : Below w.heap.size w w1) (hR : ∀ p c, R p c → R' p c) : ReadsRow R' size w1 A n ps :=
 ⟨h.1, h.2.1, fun hn => by
  obtain ⟨ad, e, hc⟩ := h.2.2 hn
  refine ⟨ad, e, fun j p hj => ?_⟩
  obtain ⟨c, hs, hr, hcell⟩ := hc j p hj
  exact ⟨c, hs, hR _ _ hr, fun i u hu => pw_cell_below hb (hcell i u hu)⟩⟩
theorem own_reads_row {α : Type} {R : α → List Value → Prop} {w : World} {base n size : Nat} {e : TypeId} {v : Value} {ps : List α} {cs : List Value} (h : w.ownsRow base e size v n cs) (hR : Reps R size ps cs) (hn : ps.length = n) :
  ∃ A c, v = .slice A n c ∧ ReadsRow R size w A n ps := by
 rcases Nat.eq_zero_or_pos n with h0 | h0
 ·rcases h.2 with ⟨rfl, rfl⟩ | ⟨g, cap, cur, rfl, _⟩
  ·exact ⟨none, 0, rfl, hn, by omega, fun hp => absurd hp (by omega)⟩
  ·exact ⟨_, cap, rfl, hn, by omega, fun hp => absurd hp (by omega)⟩
 ·obtain ⟨g, cap, rfl, _, _⟩ := h.form h0
  have hm : n ≤ 9223372036854775807 := by
   rcases h.2 with ⟨_, h1⟩ | ⟨g', cap', cur, he, _, _, h1, h2, _⟩
   ·omega
   ·simp only [maxLen] at h2
    omega
  refine ⟨_, cap, rfl, hn, hm, fun _ => ⟨_, rfl, fun j p hj => ⟨(cs.drop (j * size)).take size, ?_, hR.2 j p hj, fun i u hu => ?_⟩⟩⟩
  ·have hjl := (List.getElem?_eq_some_iff.1 hj).1
   have h1 : j * size + size ≤ cs.length := by rw [hR.1, ← Nat.succ_mul]; exact Nat.mul_le_mul_right _ hjl
   rw [List.length_take, List.length_drop]
   omega
  ·refine h.cells (g := g) rfl _ u ?_
   rw [List.getElem?_take] at hu
   split at hu
   ·rw [List.getElem?_drop] at hu
    exact hu
   ·cases hu
theorem add_field (ad : Addr) (m j : Nat) (hj : 0 < j) : ad.add (m + j) = ⟨(ad.add m).block, (ad.add m).off + j, none⟩ := by
 unfold Addr.add
 by_cases hm : m = 0
 ·subst hm
  simp [Nat.ne_of_gt hj]
 ·simp [hm, Nat.add_assoc]
section
variable {P : Program} {ops : Array Oper} {rest : List Oper} {o : Oper} {a : Act} {Q : Exit → Act → World → Prop}
theorem print_append_cells {w0 W : World} (base : Nat) (hgd : o.guard = none) (s x : Operand) (t e : TypeId) (z : Value) (size bytes : Nat)
  (ho : o.op = .call { callee := .builtin .append, args := #[s, x], argTypes := #[t, t] })
  (ht : P.underlying t = some (.slice e)) (hinfo : (P.info? e).map (fun i => (i.zero, i.size, i.bytes)) = some (some z, size, bytes)) (hz : z.cells.size = size) (hs0 : 0 < size) (hb0 : 0 < bytes)
  (v : Value) (n : Nat) (xs ys : List Value) (hs : a.eval s = v) (hx : a.eval x = .slice (some ⟨W.heap.size, 0, none⟩) 1 1) (hys : ys.length = size) (h1 : ∀ u ∈ ys, u.oneCell' = true)
  (HO : W.ownsRow base e size v n xs) (HB : Below base w0 W) (hbase : base ≤ W.heap.size) (hl : (n + 1) * bytes ≤ 140737488355328)
  (h : ∀ v1 w1, w1.ownsRow base e size v1 (n + 1) (xs ++ ys) → Below base w0 w1 → W.grownBy w1 v.ownBlock → (v1.ownBlock = v.ownBlock ∨ ∃ b, v1.ownBlock = some b ∧ W.heap.size ≤ b) → wpList P ops Q rest (a.put o.dst v1) w1) :
  wpList P ops Q (o :: rest) a (W.alloc (.cells ys.toArray e)) := by
 obtain ⟨i0, hi, hzz⟩ := Option.map_eq_some_iff.1 hinfo
 simp only [Prod.mk.injEq] at hzz
 obtain ⟨hz0, hz1, hz2⟩ := hzz
 have hlen : n + 1 ≤ 140737488355328 := Nat.le_trans (Nat.le_mul_of_pos_right _ hb0) hl
 refine wpList_append_own_at (W.alloc (.cells ys.toArray e)) hgd s x t ho base e i0 z size bytes ht hi hz0 hz1 hz2 hz hs0 v n xs hs (HO.alloc _) ⟨W.heap.size, 0, none⟩ 1 1 ys hx (by rw [hys]; simp)
  (by simpa using World.news_of_block (cs := ys.toArray) (t := e) (fr := (0, 0)) (heap_alloc_new W (.cells ys.toArray e))) h1 (by simp only [maxLen]; omega) hl (by simp; omega) ?_
 intro v1 w1 hown hg _ hat
 refine h v1 w1 hown ((HB.alloc hbase _).grown hg (by simp; omega) (own_base HO)) (World.grownBy.trans (World.grownBy_alloc W _ _) hg) ?_
 rcases hat with hat | hat
 ·exact .inl hat
 ·exact .inr ⟨_, hat, by simp⟩
end
theorem own_ne {w : World} {base : Nat} {e t : TypeId} {size n g : Nat} {v : Value} {xs : List Value} {cs : Array Value} (h : w.ownsRow base e size v n xs) (hg : w.heap[g]? = some (.cells cs t (0, 0))) (hne : e ≠ t) : some g ≠ v.ownBlock := by
 rcases h.2 with ⟨rfl, _⟩ | ⟨g', cap, cur, rfl, _, hh, _⟩
 ·simp [Value.ownBlock]
 ·intro he
  have : g = g' := by simpa [Value.ownBlock] using he
  subst this
  rw [hg] at hh
  injection hh with hh
  injection hh with _ ht
  exact hne ht.symm
theorem own_setCell {w : World} {base : Nat} {e : TypeId} {size n : Nat} {v : Value} {xs : List Value} (h : w.ownsRow base e size v n xs) {p : Addr} (hne : some p.block ≠ v.ownBlock) (u : Value) : (w.setCell p u).ownsRow base e size v n xs := by
 obtain ⟨h1, h2⟩ := h
 refine ⟨h1, ?_⟩
 rcases h2 with h2 | ⟨g, cap, cur, rfl, hg, hh, r⟩
 ·exact .inl h2
 ·exact .inr ⟨g, cap, cur, rfl, hg, by rw [Below.heap_setCell _ _ _ _ (fun e => hne (by rw [e]; rfl))]; exact hh, r⟩
theorem blk_set {w : World} {g : Nat} {t : TypeId} {cs : Array Value} (h : w.heap[g]? = some (.cells cs t (0, 0))) (i : Nat) (u : Value) : (w.setCell ⟨g, i, none⟩ u).heap[g]? = some (.cells (cs.setIfInBounds i u) t (0, 0)) := by
 simp [World.setCell, Array.getElem?_modify, h]
theorem blk_far {w : World} {g : Nat} {t : TypeId} {cs : Array Value} (h : w.heap[g]? = some (.cells cs t (0, 0))) {p : Addr} (hp : g ≠ p.block) (u : Value) : (w.setCell p u).heap[g]? = some (.cells cs t (0, 0)) := (Below.heap_setCell w p u g hp).trans h
theorem blk_lt {w : World} {g : Nat} {o : Obj} (h : w.heap[g]? = some o) : g < w.heap.size := (Array.getElem?_eq_some_iff.1 h).1
theorem blk_cell {w : World} {g : Nat} {t : TypeId} {cs : Array Value} (h : w.heap[g]? = some (.cells cs t (0, 0))) (i : Nat) : w.cell? ⟨g, i, none⟩ = cs[i]? := cell_of_row w g i cs t (0, 0) h
theorem blk_frozen {w : World} {g : Nat} {t : TypeId} {cs : Array Value} (h : w.heap[g]? = some (.cells cs t (0, 0))) (i : Nat) : w.frozen? ⟨g, i, none⟩ = false := by simp [World.frozen?, h]
theorem blk_grown {w w1 : World} {g : Nat} {o : Obj} {row : Option Nat} (h : w.heap[g]? = some o) (hg : w.grownBy w1 row) (hne : some g ≠ row) : w1.heap[g]? = some o := (hg.block g (blk_lt h) hne).trans h
section
variable {P : Program} {ops : Array Oper} {o : Oper} {a : Act} {Q : Exit → Act → World → Prop} {K : Act → World → Prop}
theorem step_append_cells {w0 W : World} (base : Nat) (hw : Region.wanted o (yielded ops a.tmps) = true) (s x : Operand) (t e : TypeId) (z : Value) (size bytes : Nat)
  (ho : o.op = .call { callee := .builtin .append, args := #[s, x], argTypes := #[t, t] })
  (ht : P.underlying t = some (.slice e)) (hinfo : (P.info? e).map (fun i => (i.zero, i.size, i.bytes)) = some (some z, size, bytes)) (hz : z.cells.size = size) (hs0 : 0 < size) (hb0 : 0 < bytes)
  (v : Value) (n : Nat) (xs ys : List Value) (hs : a.eval s = v) (hx : a.eval x = .slice (some ⟨W.heap.size, 0, none⟩) 1 1) (hys : ys.length = size) (h1 : ∀ u ∈ ys, u.oneCell' = true)
  (HO : W.ownsRow base e size v n xs) (HB : Below base w0 W) (hbase : base ≤ W.heap.size) (hl : (n + 1) * bytes ≤ 140737488355328)
  (h : ∀ v1 w1, w1.ownsRow base e size v1 (n + 1) (xs ++ ys) → Below base w0 w1 → W.grownBy w1 v.ownBlock → (v1.ownBlock = v.ownBlock ∨ ∃ b, v1.ownBlock = some b ∧ W.heap.size ≤ b) → K (a.put o.dst v1) w1) :
  if Region.wanted o (yielded ops a.tmps) = true then Oper.wp P o a (W.alloc (.cells ys.toArray e)) K Q else K (a.put o.dst undef) (W.alloc (.cells ys.toArray e)) := by
 obtain ⟨i0, hi, hzz⟩ := Option.map_eq_some_iff.1 hinfo
 simp only [Prod.mk.injEq] at hzz
 obtain ⟨hz0, hz1, hz2⟩ := hzz
 have hlen : n + 1 ≤ 140737488355328 := Nat.le_trans (Nat.le_mul_of_pos_right _ hb0) hl
 rw [if_pos hw]
 obtain ⟨v1, w1, hr, hown, hg, _, hat⟩ := run_append_own_at (P := P) (W.alloc (.cells ys.toArray e)) base t o.type e i0 z size bytes ht hi hz0 hz1 hz2 hz hs0 v n xs (HO.alloc _) ⟨W.heap.size, 0, none⟩ 1 1 ys (by rw [hys]; simp)
  (by simpa using World.news_of_block (cs := ys.toArray) (t := e) (fr := (0, 0)) (heap_alloc_new W (.cells ys.toArray e))) h1 (by simp only [maxLen]; omega) hl (by simp; omega)
 unfold Oper.wp execOp
 simp only [ho, resolve, invoke, builtin, Sem.run_bind, Sem.run_pure, Result.andThen_ok, List.map_toArray, List.map_cons, List.map_nil, hs, hx, hr]
 refine h v1 w1 hown ((HB.alloc hbase _).grown hg (by simp; omega) (own_base HO)) (World.grownBy.trans (World.grownBy_alloc W _ _) hg) ?_
 rcases hat with hat | hat
 ·exact .inl hat
 ·exact .inr ⟨_, hat, by simp⟩
end
theorem own_weaken {w : World} {base base' : Nat} {e : TypeId} {size n : Nat} {v : Value} {xs : List Value} (h : w.ownsRow base e size v n xs) (hb : base' ≤ base) : w.ownsRow base' e size v n xs := by
 obtain ⟨h1, h2⟩ := h
 refine ⟨h1, ?_⟩
 rcases h2 with h2 | ⟨g, cap, cur, rfl, hg, r⟩
 ·exact .inl h2
 ·exact .inr ⟨g, cap, cur, rfl, Nat.le_trans hb hg, r⟩
section
variable {α : Type} {enc : α → Value} {d : α}
def encs (enc : α → Value) (xs : List α) : List Value := xs.map enc
def rdOf (d : α) (xs : List α) (i : Int) : α := xs.getD i.toNat d
theorem encs_length (xs : List α) : (encs enc xs).length = xs.length := by simp [encs]
theorem encs_get (xs : List α) (j : Nat) (h : j < xs.length) : (encs enc xs)[j]? = some (enc (xs.getD j d)) := by
 simp [encs, List.getElem?_eq_getElem h, List.getD_eq_getElem?_getD]
def ReadsOf (enc : α → Value) (d : α) (w : World) (A : Option Addr) (n : Nat) (xs : List α) : Prop :=
 xs.length = n ∧ n ≤ 9223372036854775807 ∧ (0 < n → ∃ ad, A = some ad ∧ ∀ j, j < n → w.cell? (ad.add j) = some (enc (xs.getD j d)))
theorem ReadsOf.at_ {w : World} {A : Option Addr} {n : Nat} {xs : List α} (h : ReadsOf enc d w A n xs) (i : Int) (h0 : 0 ≤ i) (h1 : i < n) : ∃ ad, A = some ad ∧ w.cell? (ad.add i.toNat) = some (enc (rdOf d xs i)) := by
 obtain ⟨ad, e, hc⟩ := h.2.2 (by omega)
 exact ⟨ad, e, hc _ (by omega)⟩
theorem own_reads_of {w : World} {base n : Nat} {e : TypeId} {v : Value} {xs : List α} (h : w.ownsRow base e 1 v n (encs enc xs)) : ∃ A c, v = .slice A n c ∧ ReadsOf enc d w A n xs := by
 have hl : xs.length = n := by have := h.1; simp [encs] at this; exact this
 rcases Nat.eq_zero_or_pos n with h0 | h0
 ·rcases h.2 with ⟨rfl, rfl⟩ | ⟨g, cap, cur, rfl, _⟩
  ·exact ⟨none, 0, rfl, hl, by omega, fun hp => absurd hp (by omega)⟩
  ·exact ⟨_, cap, rfl, hl, by omega, fun hp => absurd hp (by omega)⟩
 ·obtain ⟨g, cap, rfl, _, _⟩ := h.form h0
  have hm : n ≤ 9223372036854775807 := by
   rcases h.2 with ⟨_, h1⟩ | ⟨g', cap', cur, he, _, _, h1, h2, _⟩
   ·omega
   ·simp only [maxLen] at h2
    omega
  exact ⟨_, cap, rfl, hl, hm, fun _ => ⟨_, rfl, fun j hj => h.cells (g := g) rfl j _ (encs_get xs j (by omega))⟩⟩
end
theorem blk_drew {w : World} {g : Nat} {o : Obj} (h : w.heap[g]? = some o) : w.drew.heap[g]? = some o := h
theorem blk_below {w w1 : World} {g : Nat} {o : Obj} (h : w.heap[g]? = some o) (hb : Below w.heap.size w w1) : w1.heap[g]? = some o := (hb.block g (blk_lt h)).trans h
theorem blk_new (w : World) (o : Obj) : (w.alloc o).heap[w.heap.size]? = some o := heap_alloc_new w o
theorem own_le {w : World} {base n m c size : Nat} {e : TypeId} {A : Option Addr} {xs : List Value} (h : w.ownsRow base e size (.slice A m c) n xs) : m ≤ c := by
 rcases h.2 with ⟨he, _⟩ | ⟨g, cap, cur, he, _, _, hnc, _⟩
 ·injection he with _ h2 h3
  omega
 ·injection he with _ h2 h3
  omega
theorem own_reads_of_le {α : Type} {enc : α → Value} {d : α} {w : World} {base n : Nat} {e : TypeId} {v : Value} {xs : List α} (h : w.ownsRow base e 1 v n (encs enc xs)) : ∃ A c, v = .slice A n c ∧ n ≤ c ∧ ReadsOf enc d w A n xs := by
 obtain ⟨A, c, rfl, hr⟩ := own_reads_of (d := d) h
 exact ⟨A, c, rfl, own_le h, hr⟩
def OwnRow {α : Type} (R : α → List Value → Prop) (e : TypeId) (size : Nat) (w : World) (base : Nat) (v : Value) (ps : List α) : Prop :=
 ∃ inner, w.ownsRow base e size v ps.length inner ∧ Reps R size ps inner
section
variable {α : Type} {R R' : α → List Value → Prop} {e : TypeId} {size : Nat} {w w1 : World} {base : Nat} {v : Value} {ps : List α}
theorem OwnRow.none_ (R : α → List Value → Prop) (e : TypeId) (size : Nat) (w : World) (base : Nat) : OwnRow R e size w base (.slice none 0 0) [] := ⟨[], own_nil _ _ _ _, Reps.none _ _⟩
theorem OwnRow.imp_ (h : OwnRow R e size w base v ps) (hR : ∀ p c, R p c → R' p c) : OwnRow R' e size w base v ps := by
 obtain ⟨inner, ho, hr⟩ := h
 exact ⟨inner, ho, hr.imp_ hR⟩
theorem OwnRow.below (h : OwnRow R e size w base v ps) (hb : Below w.heap.size w w1) : OwnRow R e size w1 base v ps := by
 obtain ⟨inner, ho, hr⟩ := h
 exact ⟨inner, pw_own_below ho hb, hr⟩
theorem OwnRow.other (h : OwnRow R e size w base v ps) {row : Option Nat} (hg : w.grownBy w1 row) (hne : v.ownBlock = none ∨ v.ownBlock ≠ row) : OwnRow R e size w1 base v ps := by
 obtain ⟨inner, ho, hr⟩ := h
 exact ⟨inner, own_other ho hg hne, hr⟩
theorem OwnRow.set_ (h : OwnRow R e size w base v ps) {g : Nat} {t : TypeId} {cells : Array Value} (hb : w.heap[g]? = some (.cells cells t (0, 0))) (ht : e ≠ t) (j : Nat) (u : Value) : OwnRow R e size (w.setCell ⟨g, j, none⟩ u) base v ps := by
 obtain ⟨inner, ho, hr⟩ := h
 exact ⟨inner, own_setCell ho (own_ne ho hb ht) u, hr⟩
theorem OwnRow.slice_ (h : OwnRow R e size w base v ps) : ∃ A c, v = .slice A ps.length c ∧ ps.length ≤ c := by
 obtain ⟨inner, ho, hr⟩ := h
 obtain ⟨A, c, rfl⟩ := own_slice ho
 exact ⟨A, c, rfl, own_le ho⟩
theorem OwnRow.reads (h : OwnRow R e size w base v ps) : ∃ A c, v = .slice A ps.length c ∧ ps.length ≤ c ∧ ReadsRow R size w A ps.length ps := by
 obtain ⟨inner, ho, hr⟩ := h
 obtain ⟨A, c, rfl, hrow⟩ := own_reads_row ho hr rfl
 exact ⟨A, c, rfl, own_le ho, hrow⟩
theorem OwnRow.ne_block (h : OwnRow R e size w base v ps) {g : Nat} {t : TypeId} {cells : Array Value} (hb : w.heap[g]? = some (.cells cells t (0, 0))) (ht : e ≠ t) : some g ≠ v.ownBlock := by
 obtain ⟨inner, ho, hr⟩ := h
 exact own_ne ho hb ht
end
section
variable {P : Program} {ops : Array Oper} {rest : List Oper} {o : Oper} {a : Act} {Q : Exit → Act → World → Prop} {α : Type} {R : α → List Value → Prop}
theorem OwnRow.append {w0 W : World} (base : Nat) (hgd : o.guard = none) (s x : Operand) (t e : TypeId) (z : Value) (size bytes : Nat)
  (ho : o.op = .call { callee := .builtin .append, args := #[s, x], argTypes := #[t, t] })
  (ht : P.underlying t = some (.slice e)) (hinfo : (P.info? e).map (fun i => (i.zero, i.size, i.bytes)) = some (some z, size, bytes)) (hz : z.cells.size = size) (hs0 : 0 < size) (hb0 : 0 < bytes)
  (v : Value) (ps : List α) (p : α) (cs : List Value) (hs : a.eval s = v) (hx : a.eval x = .slice (some ⟨W.heap.size, 0, none⟩) 1 1) (hp : R p cs) (hcs : cs.length = size) (h1 : ∀ u ∈ cs, u.oneCell' = true)
  (HO : OwnRow R e size W base v ps) (HB : Below base w0 W) (hbase : base ≤ W.heap.size) (hl : (ps.length + 1) * bytes ≤ 140737488355328)
  (h : ∀ v1 w1, OwnRow R e size w1 base v1 (ps ++ [p]) → Below base w0 w1 → W.grownBy w1 v.ownBlock → (v1.ownBlock = v.ownBlock ∨ ∃ b, v1.ownBlock = some b ∧ W.heap.size ≤ b) → wpList P ops Q rest (a.put o.dst v1) w1) :
  wpList P ops Q (o :: rest) a (W.alloc (.cells cs.toArray e)) := by
 obtain ⟨inner, hown, hr⟩ := HO
 refine print_append_cells base hgd s x t e z size bytes ho ht hinfo hz hs0 hb0 v ps.length inner cs hs hx hcs h1 hown HB hbase hl ?_
 intro v1 w1 hown1 hb1 hg1 hat1
 exact h v1 w1 ⟨inner ++ cs, by rw [List.length_append, List.length_singleton]; exact hown1, hr.snoc hp hcs⟩ hb1 hg1 hat1
end
section
variable {P : Program} {ops : Array Oper} {o : Oper} {a : Act} {Q : Exit → Act → World → Prop} {K : Act → World → Prop} {α : Type} {R : α → List Value → Prop}
theorem OwnRow.append_step {w0 W : World} (base : Nat) (hw : Region.wanted o (yielded ops a.tmps) = true) (s x : Operand) (t e : TypeId) (z : Value) (size bytes : Nat)
  (ho : o.op = .call { callee := .builtin .append, args := #[s, x], argTypes := #[t, t] })
  (ht : P.underlying t = some (.slice e)) (hinfo : (P.info? e).map (fun i => (i.zero, i.size, i.bytes)) = some (some z, size, bytes)) (hz : z.cells.size = size) (hs0 : 0 < size) (hb0 : 0 < bytes)
  (v : Value) (ps : List α) (p : α) (cs : List Value) (hs : a.eval s = v) (hx : a.eval x = .slice (some ⟨W.heap.size, 0, none⟩) 1 1) (hp : R p cs) (hcs : cs.length = size) (h1 : ∀ u ∈ cs, u.oneCell' = true)
  (HO : OwnRow R e size W base v ps) (HB : Below base w0 W) (hbase : base ≤ W.heap.size) (hl : (ps.length + 1) * bytes ≤ 140737488355328)
  (h : ∀ v1 w1, OwnRow R e size w1 base v1 (ps ++ [p]) → Below base w0 w1 → W.grownBy w1 v.ownBlock → (v1.ownBlock = v.ownBlock ∨ ∃ b, v1.ownBlock = some b ∧ W.heap.size ≤ b) → K (a.put o.dst v1) w1) :
  if Region.wanted o (yielded ops a.tmps) = true then Oper.wp P o a (W.alloc (.cells cs.toArray e)) K Q else K (a.put o.dst undef) (W.alloc (.cells cs.toArray e)) := by
 obtain ⟨inner, hown, hr⟩ := HO
 refine step_append_cells base hw s x t e z size bytes ho ht hinfo hz hs0 hb0 v ps.length inner cs hs hx hcs h1 hown HB hbase hl ?_
 intro v1 w1 hown1 hb1 hg1 hat1
 exact h v1 w1 ⟨inner ++ cs, by rw [List.length_append, List.length_singleton]; exact hown1, hr.snoc hp hcs⟩ hb1 hg1 hat1
end
theorem ReadsRow.inner_ {α : Type} {R : α → List Value → Prop} {size : Nat} {w : World} {ad : Addr} {n : Nat} {ps : List α} (h : ReadsRow R size w (some ad) n ps) :
  ∃ inner, Reps R size ps inner ∧ ∀ j u, inner[j]? = some u → w.cell? (ad.add j) = some u := by
 have key : ∀ m, m ≤ ps.length → ∃ inner, Reps R size (ps.take m) inner ∧ ∀ j u, inner[j]? = some u → w.cell? (ad.add j) = some u := by
  intro m
  induction m with
  | zero => exact fun _ => ⟨[], Reps.none _ _, fun j u hu => by simp at hu⟩
  | succ m ih =>
   intro hm
   obtain ⟨inner, hr, hc⟩ := ih (by omega)
   obtain ⟨ad', he, hcell⟩ := h.2.2 (by have := h.1; omega)
   injection he with he
   subst he
   obtain ⟨c, hcl, hp, hcc⟩ := hcell m _ (List.getElem?_eq_getElem (show m < ps.length by omega))
   refine ⟨inner ++ c, ?_, fun j u hu => ?_⟩
   ·rw [List.take_succ_eq_append_getElem (show m < ps.length by omega)]
    exact hr.snoc hp hcl
   ·have hil : inner.length = m * size := by rw [hr.1, List.length_take, Nat.min_eq_left (by omega)]
    rcases Nat.lt_or_ge j inner.length with hj | hj
    ·rw [List.getElem?_append_left hj] at hu
     exact hc j u hu
    ·rw [List.getElem?_append_right hj] at hu
     have := hcc (j - inner.length) u hu
     rwa [hil, Nat.add_sub_cancel' (by omega)] at this
 obtain ⟨inner, hr, hc⟩ := key ps.length (Nat.le_refl _)
 rw [List.take_length] at hr
 exact ⟨inner, hr, hc⟩
structure Kd (α : Type) where
 sz : Nat
 E : List Nat
 K : World → α → List Value → Prop
 M : World → Nat → (Nat → Prop) → α → List Value → Prop
 K_len : ∀ {w x cs}, K w x cs → cs.length = sz
 K_one : ∀ {w x cs}, K w x cs → ∀ u ∈ cs, u.oneCell' = true
 K_below : ∀ {w w1 : World} {x cs}, Below w.heap.size w w1 → K w x cs → K w1 x cs
 K_of_M : ∀ {w base ok x cs}, M w base ok x cs → K w x cs
 M_mono : ∀ {w base ok ok' x cs}, (∀ k, ok k → ok' k) → M w base ok x cs → M w base ok' x cs
 M_bound : ∀ {w : World} {base ok x cs}, M w base ok x cs → M w base (fun k => ok k ∧ base ≤ k ∧ k < w.heap.size ∧ ∃ q, q ∈ E ∧ ∃ cells, w.heap[k]? = some (.cells cells q (0, 0))) x cs
 M_move : ∀ {w w1 : World} {base ok x cs}, (∀ k, ok k → w1.heap[k]? = w.heap[k]?) → M w base ok x cs → M w1 base ok x cs
 M_lower : ∀ {w base base' ok x cs}, base' ≤ base → M w base ok x cs → M w base' ok x cs
theorem own_move {w w1 : World} {base : Nat} {e : TypeId} {size n : Nat} {v : Value} {xs : List Value} (h : w.ownsRow base e size v n xs) (hm : ∀ k, v.ownBlock = some k → w1.heap[k]? = w.heap[k]?) : w1.ownsRow base e size v n xs := by
 obtain ⟨h1, h2⟩ := h
 refine ⟨h1, ?_⟩
 rcases h2 with h2 | ⟨g, cap, cur, rfl, hg, hh, r⟩
 ·exact .inl h2
 ·exact .inr ⟨g, cap, cur, rfl, hg, (hm g (by simp [Value.ownBlock])).trans hh, r⟩
theorem own_typed {w : World} {base : Nat} {e : TypeId} {size n : Nat} {v : Value} {xs : List Value} (h : w.ownsRow base e size v n xs) (k : Nat) (hk : v.ownBlock = some k) : ∃ cells, w.heap[k]? = some (.cells cells e (0, 0)) := by
 rcases h.2 with ⟨rfl, _⟩ | ⟨g, cap, cur, rfl, hg, hh, r⟩
 ·simp [Value.ownBlock] at hk
 ·have : g = k := by simpa [Value.ownBlock] using hk
  subst this
  exact ⟨cur, hh⟩
namespace Kd
def C {α : Type} (d : Kd α) (w : World) (A : Option Addr) (n : Nat) (xs : List α) : Prop := ReadsRow (d.K w) d.sz w A n xs
def R {α : Type} (d : Kd α) (e : Nat) (w : World) (base : Nat) (ok : Nat → Prop) (v : Value) (xs : List α) : Prop :=
 (∀ k, v.ownBlock = some k → ok k) ∧ OwnRow (d.M w base (fun k => ok k ∧ some k ≠ v.ownBlock)) e d.sz w base v xs
section
variable {α : Type} {d : Kd α} {e : Nat} {w w1 : World} {base : Nat} {ok ok' : Nat → Prop} {v : Value} {xs : List α}
theorem C_below {A : Option Addr} {n : Nat} (h : d.C w A n xs) (hb : Below w.heap.size w w1) : d.C w1 A n xs := ReadsRow.imp_ h hb (fun _ _ hp => d.K_below hb hp)
theorem R_mono (h : d.R e w base ok v xs) (hok : ∀ k, ok k → ok' k) : d.R e w base ok' v xs := ⟨fun k hk => hok k (h.1 k hk), h.2.imp_ (fun _ _ hp => d.M_mono (fun k hk => ⟨hok k hk.1, hk.2⟩) hp)⟩
theorem R_bound (h : d.R e w base ok v xs) : d.R e w base (fun k => ok k ∧ base ≤ k ∧ k < w.heap.size ∧ ∃ q, q ∈ e :: d.E ∧ ∃ cells, w.heap[k]? = some (.cells cells q (0, 0))) v xs := by
 obtain ⟨h0, inner, ho, hr⟩ := h
 refine ⟨fun k hk => ?_, inner, ho, hr.imp_ (fun _ _ hp => d.M_mono (fun k hk => ?_) (d.M_bound hp))⟩
 ·obtain ⟨cells, hc⟩ := own_typed ho k hk
  exact ⟨h0 k hk, own_base ho k hk, own_lt ho k hk, e, List.mem_cons_self, cells, hc⟩
 ·obtain ⟨⟨h1, h2⟩, h3, h4, q, hq, hc⟩ := hk
  exact ⟨⟨h1, h3, h4, q, List.mem_cons_of_mem _ hq, hc⟩, h2⟩
theorem R_move (h : d.R e w base ok v xs) (hm : ∀ k, ok k → w1.heap[k]? = w.heap[k]?) : d.R e w1 base ok v xs := by
 obtain ⟨h0, inner, ho, hr⟩ := h
 exact ⟨h0, inner, own_move ho (fun k hk => hm k (h0 k hk)), hr.imp_ (fun _ _ hp => d.M_move (fun k hk => hm k hk.1) hp)⟩
theorem R_lower {base' : Nat} (h : d.R e w base ok v xs) (hb : base' ≤ base) : d.R e w base' ok v xs := by
 obtain ⟨h0, inner, ho, hr⟩ := h
 exact ⟨h0, inner, own_weaken ho hb, hr.imp_ (fun _ _ hp => d.M_lower hb hp)⟩
theorem R_step (h : d.R e w base ok v xs) (hm : ∀ k, ok k → k < w.heap.size → w1.heap[k]? = w.heap[k]?) : d.R e w1 base ok v xs :=
 R_mono (R_move (R_bound h) (fun k hk => hm k hk.1 hk.2.2.1)) (fun _ hk => hk.1)
theorem M_step {x : α} {cs : List Value} (h : d.M w base ok x cs) (hm : ∀ k, ok k → k < w.heap.size → w1.heap[k]? = w.heap[k]?) : d.M w1 base ok x cs :=
 d.M_mono (fun _ hk => hk.1) (d.M_move (fun k hk => hm k hk.1 hk.2.2.1) (d.M_bound h))
theorem R_below (h : d.R e w base ok v xs) (hb : Below w.heap.size w w1) : d.R e w1 base ok v xs := R_step h (fun k _ hk => hb.block k hk)
theorem M_below {x : α} {cs : List Value} (h : d.M w base ok x cs) (hb : Below w.heap.size w w1) : d.M w1 base ok x cs := M_step h (fun k _ hk => hb.block k hk)
theorem R_far (h : d.R e w base ok v xs) {p : Addr} (hok : ∀ k, ok k → k ≠ p.block) (u : Value) : d.R e (w.setCell p u) base ok v xs := R_step h (fun k ho _ => Below.heap_setCell w p u k (hok k ho))
theorem R_types (h : d.R e w base ok v xs) {g t : Nat} {cells : Array Value} (hb : w.heap[g]? = some (.cells cells t (0, 0))) (ht : ∀ q, q ∈ e :: d.E → q ≠ t) : d.R e w base (fun k => ok k ∧ k ≠ g) v xs :=
 R_mono (R_bound h) (fun k hk => ⟨hk.1, by
  obtain ⟨_, _, _, q, hq, cells', hc⟩ := hk
  rintro rfl
  rw [hc] at hb
  injection hb with hb
  injection hb with _ hb
  exact ht q hq hb⟩)
theorem R_reads (h : d.R e w base ok v xs) : ∃ A c, v = .slice A xs.length c ∧ xs.length ≤ c ∧ d.C w A xs.length xs := by
 obtain ⟨A, c, he, hl, hr⟩ := OwnRow.reads h.2
 exact ⟨A, c, he, hl, hr.imp_ (Below.refl _ _) (fun _ _ hp => d.K_of_M hp)⟩
theorem R_slice (h : d.R e w base ok v xs) : ∃ A c, v = .slice A xs.length c := by
 obtain ⟨A, c, he, _⟩ := R_reads h
 exact ⟨A, c, he⟩
theorem R_own (h : d.R e w base ok v xs) : ∃ inner, w.ownsRow base e d.sz v xs.length inner := by
 obtain ⟨_, inner, ho, _⟩ := h
 exact ⟨inner, ho⟩
end
def scalar {α : Type} (enc : α → Value) (h1 : ∀ x, (enc x).oneCell' = true) : Kd α where
 sz := 1
 E := []
 K := fun _ x cs => cs = [enc x]
 M := fun _ _ _ x cs => cs = [enc x]
 K_len := fun h => by rw [h]; rfl
 K_one := fun h u hu => by
  rw [h] at hu
  rw [List.mem_singleton.1 hu]
  exact h1 _
 K_below := fun _ h => h
 K_of_M := fun h => h
 M_mono := fun _ h => h
 M_bound := fun h => h
 M_move := fun _ h => h
 M_lower := fun _ h => h
def int (k : IntKind) : Kd Int := scalar (Value.int k) (fun _ => rfl)
def bool : Kd Bool := scalar Value.bool (fun _ => rfl)
def string : Kd ByteArray := scalar Value.string (fun _ => rfl)
def slice {α : Type} (e : Nat) (d : Kd α) : Kd (List α) where
 sz := 1
 E := e :: d.E
 K := fun w xs cs => ∃ A c, cs = [.slice A xs.length c] ∧ xs.length ≤ c ∧ d.C w A xs.length xs
 M := fun w base ok xs cs => ∃ v, cs = [v] ∧ d.R e w base ok v xs
 K_len := by
  rintro w x cs ⟨A, c, rfl, _⟩
  rfl
 K_one := by
  rintro w x cs ⟨A, c, rfl, _⟩ u hu
  rw [List.mem_singleton.1 hu]
  rfl
 K_below := by
  rintro w w1 x cs hb ⟨A, c, rfl, hl, hr⟩
  exact ⟨A, c, rfl, hl, C_below hr hb⟩
 K_of_M := by
  rintro w base ok x cs ⟨v, rfl, h⟩
  obtain ⟨A, c, rfl, hl, hr⟩ := R_reads h
  exact ⟨A, c, rfl, hl, hr⟩
 M_mono := by
  rintro w base ok ok' x cs hok ⟨v, rfl, h⟩
  exact ⟨v, rfl, R_mono h hok⟩
 M_bound := by
  rintro w base ok x cs ⟨v, rfl, h⟩
  exact ⟨v, rfl, R_bound h⟩
 M_move := by
  rintro w w1 base ok x cs hm ⟨v, rfl, h⟩
  exact ⟨v, rfl, R_move h hm⟩
 M_lower := by
  rintro w base base' ok x cs hb ⟨v, rfl, h⟩
  exact ⟨v, rfl, R_lower h hb⟩
def pair {α β : Type} (a : Kd α) (b : Kd β) : Kd (α × β) where
 sz := a.sz + b.sz
 E := a.E ++ b.E
 K := fun w x cs => ∃ c0 c1, cs = c0 ++ c1 ∧ a.K w x.1 c0 ∧ b.K w x.2 c1
 M := fun w base ok x cs => ∃ c0 c1, cs = c0 ++ c1 ∧ a.M w base ok x.1 c0 ∧ b.M w base ok x.2 c1
 K_len := by
  rintro w x cs ⟨c0, c1, rfl, h0, h1⟩
  rw [List.length_append, a.K_len h0, b.K_len h1]
 K_one := by
  rintro w x cs ⟨c0, c1, rfl, h0, h1⟩ u hu
  rcases List.mem_append.1 hu with hu | hu
  ·exact a.K_one h0 u hu
  ·exact b.K_one h1 u hu
 K_below := by
  rintro w w1 x cs hb ⟨c0, c1, rfl, h0, h1⟩
  exact ⟨c0, c1, rfl, a.K_below hb h0, b.K_below hb h1⟩
 K_of_M := by
  rintro w base ok x cs ⟨c0, c1, rfl, h0, h1⟩
  exact ⟨c0, c1, rfl, a.K_of_M h0, b.K_of_M h1⟩
 M_mono := by
  rintro w base ok ok' x cs hok ⟨c0, c1, rfl, h0, h1⟩
  exact ⟨c0, c1, rfl, a.M_mono hok h0, b.M_mono hok h1⟩
 M_bound := by
  rintro w base ok x cs ⟨c0, c1, rfl, h0, h1⟩
  refine ⟨c0, c1, rfl, a.M_mono ?_ (a.M_bound h0), b.M_mono ?_ (b.M_bound h1)⟩
  ·rintro k ⟨h2, h3, h4, q, hq, hc⟩
   exact ⟨h2, h3, h4, q, List.mem_append_left _ hq, hc⟩
  ·rintro k ⟨h2, h3, h4, q, hq, hc⟩
   exact ⟨h2, h3, h4, q, List.mem_append_right _ hq, hc⟩
 M_move := by
  rintro w w1 base ok x cs hm ⟨c0, c1, rfl, h0, h1⟩
  exact ⟨c0, c1, rfl, a.M_move hm h0, b.M_move hm h1⟩
 M_lower := by
  rintro w base base' ok x cs hb ⟨c0, c1, rfl, h0, h1⟩
  exact ⟨c0, c1, rfl, a.M_lower hb h0, b.M_lower hb h1⟩
def iso {α β : Type} (d : Kd α) (f : β → α) : Kd β where
 sz := d.sz
 E := d.E
 K := fun w x cs => d.K w (f x) cs
 M := fun w base ok x cs => d.M w base ok (f x) cs
 K_len := d.K_len
 K_one := d.K_one
 K_below := d.K_below
 K_of_M := d.K_of_M
 M_mono := d.M_mono
 M_bound := d.M_bound
 M_move := d.M_move
 M_lower := d.M_lower
def bot {α : Type} (sz : Nat) (E : List Nat) : Kd α where
 sz := sz
 E := E
 K := fun _ _ _ => False
 M := fun _ _ _ _ _ => False
 K_len := fun h => h.elim
 K_one := fun h => h.elim
 K_below := fun _ h => h
 K_of_M := fun h => h
 M_mono := fun _ h => h
 M_bound := fun h => h
 M_move := fun _ h => h
 M_lower := fun _ h => h
def upto {α : Type} (F : Kd α → Kd α) (sz : Nat) (E : List Nat) : Nat → Kd α
 | 0 => bot sz E
 | n + 1 => F (upto F sz E n)
theorem C_get {α : Type} {d : Kd α} {w : World} {A : Option Addr} {n : Nat} {xs : List α} (h : d.C w A n xs) (z : α) (i : Int) (h0 : 0 ≤ i) (h1 : i < n) :
  ∃ ad c, A = some ad ∧ c.length = d.sz ∧ d.K w (xs.getD i.toNat z) c ∧ ∀ j u, c[j]? = some u → w.cell? (ad.add (i.toNat * d.sz + j)) = some u := ReadsRow.get_ h z i h0 h1
theorem reps_scalar {α : Type} {enc : α → Value} (xs : List α) : Reps (fun (x : α) (cs : List Value) => cs = [enc x]) 1 xs (encs enc xs) := by
 refine ⟨by simp [encs], fun j p hj => ?_⟩
 obtain ⟨hl, hp⟩ := List.getElem?_eq_some_iff.1 hj
 have hl' : j < (encs enc xs).length := by rw [encs_length]; exact hl
 rw [Nat.mul_one, List.drop_eq_getElem_cons hl']
 simp [encs, hp]
theorem R_of_own {α : Type} {enc : α → Value} {h1 : ∀ x, (enc x).oneCell' = true} {e : Nat} {w : World} {base : Nat} {ok : Nat → Prop} {v : Value} {xs : List α} (ho : w.ownsRow base e 1 v xs.length (encs enc xs)) (hok : ∀ k, v.ownBlock = some k → ok k) : (scalar enc h1).R e w base ok v xs := ⟨hok, encs enc xs, ho, reps_scalar xs⟩
theorem reads_of_C {α : Type} {enc : α → Value} {d : α} {h1 : ∀ x, (enc x).oneCell' = true} {w : World} {A : Option Addr} {n : Nat} {xs : List α} (h : (scalar enc h1).C w A n xs) : ReadsOf enc d w A n xs := by
 refine ⟨h.1, h.2.1, fun hn => ?_⟩
 obtain ⟨ad, e, hc⟩ := h.2.2 hn
 refine ⟨ad, e, fun j hj => ?_⟩
 have hl : j < xs.length := by have := h.1; omega
 obtain ⟨c, _, hK, hcell⟩ := hc j _ (List.getElem?_eq_getElem hl)
 have hK' : c = [enc xs[j]] := hK
 subst hK'
 have := hcell 0 _ rfl
 simpa [scalar, List.getD_eq_getElem?_getD, List.getElem?_eq_getElem hl] using this
end Kd
namespace Kd
end Kd
namespace Kd
end Kd
namespace Kd
section
variable {α β : Type} {d : Kd α} {d' : Kd β} {e e' : Nat} {w w1 W : World} {base b b' : Nat} {ok ok' okv oku : Nat → Prop} {v u : Value} {xs : List α} {ys : List β}
theorem R_drew (h : d.R e w base ok v xs) : d.R e w.drew base ok v xs := R_below h (below_drew (Below.refl _ _))
theorem C_nil (d : Kd α) (w : World) : d.C w none ([] : List α).length [] := ⟨rfl, by simp, fun h => absurd h (Nat.lt_irrefl 0)⟩
theorem C_len {A : Option Addr} {n : Nat} (h : d.C w A n xs) : xs.length = n := h.1
theorem C_max {A : Option Addr} {n : Nat} (h : d.C w A n xs) : n ≤ 9223372036854775807 := h.2.1
theorem R_reads' {A : Option Addr} {n c : Nat} (h : d.R e w base ok (.slice A n c) xs) : n = xs.length ∧ n ≤ c ∧ d.C w A xs.length xs := by
 obtain ⟨A', c', he, hl, hr⟩ := R_reads h
 injection he with h1 h2 h3
 subst h1
 exact ⟨h2, by omega, hr⟩
theorem R_lt (h : d.R e w base ok v xs) : ∀ k, v.ownBlock = some k → k < w.heap.size := by
 obtain ⟨inner, ho⟩ := R_own h
 exact own_lt ho
theorem R_base (h : d.R e w base ok v xs) : ∀ k, v.ownBlock = some k → base ≤ k := by
 obtain ⟨inner, ho⟩ := R_own h
 exact own_base ho
end
section
variable {w W : World} {A : Option Addr} {n : Nat}
theorem at_int {k : IntKind} {xs : List Int} (h : (Kd.int k).C w A n xs) (i : Int) (h0 : 0 ≤ i) (h1 : i < n) : ∃ ad, A = some ad ∧ w.cell? (ad.add i.toNat) = some (.int k (rd xs i)) :=
 ReadsOf.at_ (reads_of_C (enc := Value.int k) (d := (0 : Int)) (h1 := fun _ => rfl) h) i h0 h1
variable {α : Type} {enc : α → Value} {h1 : ∀ x, (enc x).oneCell' = true} {e base g cap : Nat} {ok : Nat → Prop} {xs : List α}
end
section
variable {P : Program} {ops : Array Oper} {rest : List Oper} {o : Oper} {a : Act} {Q : Exit → Act → World → Prop}
theorem event_run {W w1 : World} {v : Value} (hgd : o.guard = none) (hrun : (execOp a.eval o).run P W = .ok (.value v) w1) (h : wpList P ops Q rest (a.put o.dst v) w1) : wpList P ops Q (o :: rest) a W := by
 refine wpList_plain hgd fun K hK => ?_
 unfold Oper.wp
 rw [hrun]
 exact hK _ _ h
variable {α : Type}
theorem R_lit (d : Kd α) {w0 W : World} (base e : Nat) (hgd : o.guard = none) {N : Tmp} (_hd : o.dst = some N) {xs : List α} {inner : List Value} {ok okp : Nat → Prop}
  (hrun : (execOp a.eval o).run P W = .ok (.value (.slice (some ⟨W.heap.size, 0, none⟩) xs.length xs.length)) (W.alloc (.cells inner.toArray e)))
  (hrep : Reps (d.M W base okp) d.sz xs inner) (hok : ∀ k, okp k → ok k) (hfresh : ok W.heap.size) (HB : Below base w0 W) (hbase : base ≤ W.heap.size) (hm : xs.length ≤ 9223372036854775807)
  (h : ∀ v1 w1, d.R e w1 base ok v1 xs → Below base w0 w1 → W.grownBy w1 none → (∃ b, v1.ownBlock = some b ∧ W.heap.size ≤ b) → wpList P ops Q rest (a.put o.dst v1) w1) : wpList P ops Q (o :: rest) a W := by
 refine event_run hgd hrun (h _ _ ⟨fun k hk => ?_, inner, ?_, ?_⟩ (HB.alloc hbase _) (World.grownBy_alloc W _ none) ⟨W.heap.size, by simp [Value.ownBlock], Nat.le_refl _⟩)
 ·have : W.heap.size = k := by simpa [Value.ownBlock] using hk
  subst this
  exact hfresh
 ·have h2 := World.ownsRow_lit (base := base) (e := e) (size := d.sz) W inner.toArray xs.length hbase (by simpa [maxLen] using hm) (by simpa using hrep.1)
  simpa using h2
 ·refine hrep.imp_ (fun p c hp => d.M_mono (fun k hk => ⟨hok k hk.1, fun he => ?_⟩) (M_below (d.M_bound hp) (below_alloc (Below.refl _ _) _)))
  have h3 : k = W.heap.size := by simpa [Value.ownBlock] using he
  have := hk.2.2.1
  omega
end
end Kd
namespace Kd
end Kd
namespace Kd
section
variable {α : Type} {d : Kd α} {e e' : Nat} {w w1 W : World} {base : Nat} {ok : Nat → Prop} {u v : Value} {xs : List α}
theorem R_typed (h : d.R e w base ok v xs) : ∀ k, v.ownBlock = some k → ∃ cells, w.heap[k]? = some (.cells cells e (0, 0)) := by
 obtain ⟨inner, ho⟩ := R_own h
 exact fun k hk => own_typed ho k hk
theorem R_apart' (h : d.R e W base ok u xs) (hty : ∀ k, v.ownBlock = some k → ∃ cells, W.heap[k]? = some (.cells cells e' (0, 0))) (ht : ∀ q, q ∈ e :: d.E → q ≠ e') : d.R e W base (fun k => ok k ∧ some k ≠ v.ownBlock) u xs := by
 refine R_mono (R_bound h) (fun k hk => ⟨hk.1, fun he => ?_⟩)
 obtain ⟨_, _, _, q, hq, cells, hc⟩ := hk
 obtain ⟨cells', hc'⟩ := hty k he.symm
 rw [hc] at hc'
 injection hc' with hc'
 injection hc' with _ hc'
 exact ht q hq hc'
theorem R_elder' (hu : d.R e W base ok u xs) (hbase : ∀ k, v.ownBlock = some k → W.heap.size ≤ k) (hb : Below W.heap.size W w1) : d.R e w1 base (fun k => ok k ∧ some k ≠ v.ownBlock) u xs :=
 R_mono (R_move (R_bound hu) (fun k hk => hb.block k hk.2.2.1)) (fun k hk => ⟨hk.1, fun he => by have := hbase k he.symm; have := hk.2.2.1; omega⟩)
theorem R_new' (h : d.R e w1 W.heap.size ok v xs) (hlt : ∀ k, u.ownBlock = some k → k < W.heap.size) : d.R e w1 W.heap.size (fun k => ok k ∧ some k ≠ u.ownBlock) v xs :=
 R_mono (R_bound h) (fun k hk => ⟨hk.1, fun he => by have := hlt k he.symm; have := hk.2.1; omega⟩)
theorem fresh' (hlt : ∀ k, u.ownBlock = some k → k < W.heap.size) : ∀ k, W.heap.size ≤ k → some k ≠ u.ownBlock := fun k hk he => by have := hlt k he.symm; omega
end
end Kd
namespace Kd
end Kd
namespace Kd
end Kd
namespace Kd
end Kd
namespace Kd
end Kd
namespace Kd
end Kd
theorem below_size {w W : World} (h : Below w.heap.size w W) : w.heap.size ≤ W.heap.size := h.size
theorem below_step {w W w2 : World} (h : Below w.heap.size w W) (k : Below W.heap.size W w2) : Below w.heap.size w w2 := below_then h h.size k
theorem below_set {w W : World} {g j : Nat} {v : Value} (h : Below w.heap.size w W) (hg : w.heap.size ≤ g) : Below w.heap.size w (W.setCell ⟨g, j, none⟩ v) := h.setCell hg _
theorem add_block (a : Addr) (i : Nat) : (a.add i).block = a.block := by unfold Addr.add; split <;> rfl
theorem blk_put {w : World} {g : Nat} {t : TypeId} {cs cs' : Array Value} (h : w.heap[g]? = some (.cells cs t (0, 0))) (i : Nat) (u : Value) (e : cs.setIfInBounds i u = cs') : (w.setCell ⟨g, i, none⟩ u).heap[g]? = some (.cells cs' t (0, 0)) := e ▸ blk_set h i u
theorem below_drew1 {base : Nat} {w W : World} (h : Below base w W) : Below base w W.drew := h.drew
namespace Kd
end Kd
namespace Kd
section
variable {α : Type} {d : Kd α} {e base g : Nat} {ok : Nat → Prop} {w w1 : World} {v : Value} {xs : List α} {o : Obj}
theorem freshB (hb : w.heap[g]? = some o) : ∀ k, w.heap.size ≤ k → k ≠ g := fun k hk => by have := blk_lt hb; omega
end
end Kd
section
variable {P : Program} {ops : Array Oper} {rest : List Oper} {o : Oper} {a : Act} {Q : Exit → Act → World → Prop}
theorem box_event {W : World} (hgd : o.guard = none) {N : Tmp} (_hd : o.dst = some N) {cs : Array Value} {t : TypeId}
  (hrun : (execOp a.eval o).run P W = .ok (.value (.pointer (some ⟨W.heap.size, 0, none⟩))) (W.alloc (.cells cs t (0, 0))))
  (h : ∀ g, g = W.heap.size → ∀ w1, w1.heap[g]? = some (.cells cs t (0, 0)) → Below W.heap.size W w1 → wpList P ops Q rest (a.put o.dst (.pointer (some ⟨g, 0, none⟩))) w1) : wpList P ops Q (o :: rest) a W :=
 Kd.event_run hgd hrun (h _ rfl _ (blk_new W _) (below_alloc (Below.refl _ _) _))
end
namespace Kd
end Kd
namespace Kd
end Kd
section
variable {P : Program} {ops : Array Oper} {rest : List Oper} {o : Oper} {a : Act} {Q : Exit → Act → World → Prop} {W : World}
theorem gate_dst {N : Tmp} (_hN : o.dst = some N) (h : wpList P ops Q (o :: rest) a W) : wpList P ops Q (o :: rest) a W := h
end
section
variable {P : Program} {ops : Array Oper} {o : Oper} {a : Act} {Q : Exit → Act → World → Prop} {Kc : Act → World → Prop}
theorem event_step {W w1 : World} {v : Value} (hw : Region.wanted o (yielded ops a.tmps) = true) (hrun : (execOp a.eval o).run P W = .ok (.value v) w1) (h : Kc (a.put o.dst v) w1) : if Region.wanted o (yielded ops a.tmps) = true then Oper.wp P o a W Kc Q else Kc (a.put o.dst undef) W := by
 rw [if_pos hw]
 unfold Oper.wp
 rw [hrun]
 exact h
namespace Kd
variable {α : Type}
theorem R_lit_step (d : Kd α) {w0 W : World} (base e : Nat) (hw : Region.wanted o (yielded ops a.tmps) = true) {N : Tmp} (_hd : o.dst = some N) {xs : List α} {inner : List Value} {ok okp : Nat → Prop}
  (hrun : (execOp a.eval o).run P W = .ok (.value (.slice (some ⟨W.heap.size, 0, none⟩) xs.length xs.length)) (W.alloc (.cells inner.toArray e)))
  (hrep : Reps (d.M W base okp) d.sz xs inner) (hok : ∀ k, okp k → ok k) (hfresh : ok W.heap.size) (HB : Below base w0 W) (hbase : base ≤ W.heap.size) (hm : xs.length ≤ 9223372036854775807)
  (h : ∀ v1 w1, d.R e w1 base ok v1 xs → Below base w0 w1 → W.grownBy w1 none → (∃ b, v1.ownBlock = some b ∧ W.heap.size ≤ b) → Kc (a.put o.dst v1) w1) : if Region.wanted o (yielded ops a.tmps) = true then Oper.wp P o a W Kc Q else Kc (a.put o.dst undef) W := by
 refine event_step hw hrun (h _ _ ⟨fun k hk => ?_, inner, ?_, ?_⟩ (HB.alloc hbase _) (World.grownBy_alloc W _ none) ⟨W.heap.size, by simp [Value.ownBlock], Nat.le_refl _⟩)
 ·have : W.heap.size = k := by simpa [Value.ownBlock] using hk
  subst this
  exact hfresh
 ·have h2 := World.ownsRow_lit (base := base) (e := e) (size := d.sz) W inner.toArray xs.length hbase (by simpa [maxLen] using hm) (by simpa using hrep.1)
  simpa using h2
 ·refine hrep.imp_ (fun p c hp => d.M_mono (fun k hk => ⟨hok k hk.1, fun he => ?_⟩) (M_below (d.M_bound hp) (below_alloc (Below.refl _ _) _)))
  have h3 : k = W.heap.size := by simpa [Value.ownBlock] using he
  have := hk.2.2.1
  omega
end Kd
end
namespace Kd
end Kd
end Go.Proofs.YtfgedbakbljgfaaW.PrintWords
namespace Go.Proofs.YtfgedbakbljgfaaW.PrintLast
section
variable {P : Program} {ops : Array Oper} {Q : Exit → Act → World → Prop} {md : Region.Mode} {S : World → Prop} {ds : List Nat}
def Region.reachB (md : Region.Mode) (ops : Array Oper) (i : Nat) : Nat → Nat → Bool
 | 0, _ => false
 | fuel + 1, d => match ops[d]? with
  | some o => o.after.any fun e => Region.binds md e && (e.on == i || Region.reachB md ops i fuel e.on)
  | none => false
def Region.closedB (md : Region.Mode) (ops : Array Oper) (listed : Array Bool) : Bool :=
 (List.range ops.size).all fun j => !listed.getD j false || match ops[j]? with
  | some o => o.after.all fun e => !Region.binds md e || listed.getD e.on false
  | none => true
def Region.lastB (md : Region.Mode) (ops : Array Oper) (listed : Array Bool) (ds : List Nat) (i : Nat) : Bool :=
 ds.all fun d => listed.getD d true || Region.reachB md ops i ops.size d
def ListedClosed (md : Region.Mode) (ops : Array Oper) (listed : Array Bool) : Prop :=
 ∀ j oj, ops[j]? = some oj → listed.getD j false = true → ∀ e ∈ oj.after, Region.binds md e = true → listed.getD e.on false = true
theorem Region.closedB_spec {listed : Array Bool} (h : Region.closedB md ops listed = true) : ListedClosed md ops listed := by
 intro j oj hj hl e he hb
 have hlt : j < ops.size := (Array.getElem?_eq_some_iff.1 hj).1
 have h1 := List.all_eq_true.1 h j (List.mem_range.2 hlt)
 simp only [hl, hj, Bool.not_true, Bool.false_or] at h1
 have h2 := Array.all_eq_true_iff_forall_mem.1 h1 e he
 simpa [hb] using h2
theorem ListedClosed.set {listed : Array Bool} {i : Nat} (h : ListedClosed md ops listed) (hi : i ∈ Region.ready md ops listed) : ListedClosed md ops (listed.setIfInBounds i true) := by
 obtain ⟨_, oi, hoi, hall⟩ := mem_ready.1 hi
 intro j oj hj hl e he hb
 by_cases hij : i = j
 ·subst hij
  have : oj = oi := Option.some.inj (hj.symm.trans hoi)
  subst this
  exact getD_set_true (hall e he hb)
 ·rw [getD_set_ne false hij] at hl
  exact getD_set_true (h j oj hj hl e he hb)
theorem Region.reach_listed {listed : Array Bool} {i : Nat} (hc : ListedClosed md ops listed) : ∀ (fuel d : Nat), Region.reachB md ops i fuel d = true → listed.getD d false = true → listed.getD i false = true
 | 0, _, h, _ => by simp [Region.reachB] at h
 | fuel + 1, d, h, hl => by
  unfold Region.reachB at h
  cases ho : ops[d]? with
  | none => rw [ho] at h; simp at h
  | some o =>
   rw [ho] at h
   obtain ⟨e, he, h1⟩ := Array.any_eq_true'.1 h
   simp only [Bool.and_eq_true, Bool.or_eq_true, beq_iff_eq] at h1
   have hle := hc d o ho hl e he h1.1
   rcases h1.2 with h2 | h2
   ·rw [← h2]; exact hle
   ·exact Region.reach_listed hc fuel e.on h2 hle
theorem Region.reach_not_ready {listed : Array Bool} {i d fuel : Nat} (hc : ListedClosed md ops listed) (hr : Region.reachB md ops i fuel d = true) (hun : listed.getD i true = false) : d ∉ Region.ready md ops listed := by
 intro hd
 obtain ⟨_, o, ho, hall⟩ := mem_ready.1 hd
 have hi : listed.getD i false = true := by
  cases fuel with
  | zero => simp [Region.reachB] at hr
  | succ n =>
   unfold Region.reachB at hr
   rw [ho] at hr
   obtain ⟨e, he, h1⟩ := Array.any_eq_true'.1 hr
   simp only [Bool.and_eq_true, Bool.or_eq_true, beq_iff_eq] at h1
   have hle := hall e he h1.1
   rcases h1.2 with h2 | h2
   ·rw [← h2]; exact hle
   ·exact Region.reach_listed hc n e.on h2 hle
 rcases Nat.lt_or_ge i listed.size with h' | h'
 ·simp [h'] at hun hi
  rw [hun] at hi
  cases hi
 ·simp [Array.getElem?_eq_none h'] at hun
def wpAnyLast (P : Program) (md : Region.Mode) (ops : Array Oper) (Q : Exit → Act → World → Prop) (S : World → Prop) (ds : List Nat) : Nat → Array Bool → Act → World → Prop
 | 0, listed, a, w => Region.ready md ops listed = [] ∧ Q .normal a w
 | fuel + 1, listed, a, w =>
  (Region.ready md ops listed = [] → Q .normal a w) ∧
  ∀ i ∈ Region.ready md ops listed, wpOp P ops Q i (fun a' w' => (i ∉ ds → S w → S w') ∧ wpAnyLast P md ops Q S ds fuel (listed.setIfInBounds i true) a' w') a w
theorem wpAny_of_last : ∀ (fuel : Nat) (listed : Array Bool) (a : Act) (w : World), wpAnyLast P md ops Q S ds fuel listed a w → wpAny P md ops Q fuel listed a w
 | 0, _, _, _, h => h
 | fuel + 1, _, _, _, h => ⟨h.1, fun i hi => wpOp_mono (fun a' w' h' => wpAny_of_last fuel _ a' w' h'.2) (h.2 i hi)⟩
theorem wpAnyLast_first {i : Nat} {oi : Oper} {v : Value} (hi : ops[i]? = some oi) (hsel : ∀ (j : Nat) (o : Oper) cs b, ops[j]? = some o → o.op ≠ .select cs b)
  (hQ : ∀ c a w, Q (.panic c) (a.put oi.dst v) w → Q (.panic c) a w) (n : Nat) :
  ∀ (fuel : Nat) (listed : Array Bool) (a : Act) (w : World),
   (∀ j oj, ops[j]? = some oj → j ≠ i → listed.getD j true = false → (∀ e ∈ oj.after, Region.binds md e = true → e.on ≠ i) → oi.apart ops oj = true) →
   ListedClosed md ops listed → (∀ d ∈ ds, listed.getD d true = false → Region.reachB md ops i n d = true) →
   i ∈ Region.ready md ops listed → YieldsIf P ops S oi v a → S w →
   wpAnyLast P md ops Q S ds fuel (listed.setIfInBounds i true) (a.put oi.dst v) w → wpAnyLast P md ops Q S ds (fuel + 1) listed a w := by
 intro fuel
 induction fuel with
 | zero =>
  intro listed a w _ _ _ hr hy hS H
  refine ⟨fun h => (by rw [h] at hr; cases hr), fun j hj => ?_⟩
  by_cases hji : j = i
  ·subst hji; exact hy.wpOp hi hS ⟨fun _ h => h, H⟩
  ·have := ready_mono hj hji
   rw [H.1] at this
   cases this
 | succ fuel ih =>
  intro listed a w hfree hc hd hr hy hS H
  refine ⟨fun h => (by rw [h] at hr; cases hr), fun j hj => ?_⟩
  by_cases hji : j = i
  ·subst hji; exact hy.wpOp hi hS ⟨fun _ h => h, H⟩
  ·have h1 := H.2 j (ready_mono hj hji)
   obtain ⟨hjun, oj, hoj, hall⟩ := mem_ready.1 hj
   have hiun := (mem_ready.1 hr).1
   have hnot : ∀ e ∈ oj.after, Region.binds md e = true → e.on ≠ i := fun e he hb heq => by
    have h1 := hall e he hb
    rw [heq] at h1
    rcases Nat.lt_or_ge i listed.size with h' | h'
    ·simp [h'] at hiun h1; rw [hiun] at h1; cases h1
    ·simp [Array.getElem?_eq_none h'] at h1
   have hjd : j ∉ ds := fun hm => Region.reach_not_ready hc (hd j hm hjun) hiun hj
   have h2 := wpOp_putIf hoj (hfree j oj hoj hji hjun hnot) (fun cs b => hsel i oi cs b hi) (fun cs b => hsel j oj cs b hoj) hQ hy h1
   have hfree' : ∀ k ok, ops[k]? = some ok → k ≠ i → (listed.setIfInBounds j true).getD k true = false →
     (∀ e ∈ ok.after, Region.binds md e = true → e.on ≠ i) → oi.apart ops ok = true := fun k ok hk hki hun hno => by
    refine hfree k ok hk hki ?_ hno
    by_cases hjk : j = k
    ·subst hjk; exact hjun
    ·rw [getD_set_ne true hjk] at hun; exact hun
   have hd' : ∀ d ∈ ds, (listed.setIfInBounds j true).getD d true = false → Region.reachB md ops i n d = true := fun d hm hun => by
    refine hd d hm ?_
    by_cases hjk : j = d
    ·subst hjk; exact hjun
    ·rw [getD_set_ne true hjk] at hun; exact hun
   refine wpOp_mono (fun a' w' h3 => ⟨h3.2.1, ih (listed.setIfInBounds j true) a' w' hfree' (hc.set hj) hd' (ready_mono hr (Ne.symm hji)) h3.1 (h3.2.1 hjd hS) ?_⟩) h2
   rw [Array.setIfInBounds_comm _ _ hji]
   exact h3.2.2
theorem wpAnyLast_any {i : Nat} {oi : Oper} {v : Value} (hi : ops[i]? = some oi) (hsel : ∀ (j : Nat) (o : Oper) cs b, ops[j]? = some o → o.op ≠ .select cs b)
  (hQ : ∀ c a w, Q (.panic c) (a.put oi.dst v) w → Q (.panic c) a w) :
  ∀ (fuel : Nat) (listed : Array Bool) (a : Act) (w : World),
   (∀ j oj, ops[j]? = some oj → j ≠ i → listed.getD j true = false → (∀ e ∈ oj.after, Region.binds md e = true → e.on ≠ i) → oi.apart ops oj = true) →
   i ∈ Region.ready md ops listed → Yields P ops oi v a →
   wpAnyLast P md ops Q S ds fuel (listed.setIfInBounds i true) (a.put oi.dst v) w → wpAnyLast P md ops Q S ds (fuel + 1) listed a w := by
 intro fuel
 induction fuel with
 | zero =>
  intro listed a w _ hr hy H
  refine ⟨fun h => (by rw [h] at hr; cases hr), fun j hj => ?_⟩
  by_cases hji : j = i
  ·subst hji; exact (hy.yieldsIf (S := fun _ => True)).wpOp hi trivial ⟨fun _ h => h, H⟩
  ·have := ready_mono hj hji
   rw [H.1] at this
   cases this
 | succ fuel ih =>
  intro listed a w hfree hr hy H
  refine ⟨fun h => (by rw [h] at hr; cases hr), fun j hj => ?_⟩
  by_cases hji : j = i
  ·subst hji; exact (hy.yieldsIf (S := fun _ => True)).wpOp hi trivial ⟨fun _ h => h, H⟩
  ·have h1 := H.2 j (ready_mono hj hji)
   obtain ⟨hjun, oj, hoj, hall⟩ := mem_ready.1 hj
   have hiun := (mem_ready.1 hr).1
   have hnot : ∀ e ∈ oj.after, Region.binds md e = true → e.on ≠ i := fun e he hb heq => by
    have h1 := hall e he hb
    rw [heq] at h1
    rcases Nat.lt_or_ge i listed.size with h' | h'
    ·simp [h'] at hiun h1; rw [hiun] at h1; cases h1
    ·simp [Array.getElem?_eq_none h'] at h1
   have h2 := wpOp_put hoj (hfree j oj hoj hji hjun hnot) (fun cs b => hsel i oi cs b hi) (fun cs b => hsel j oj cs b hoj) hQ hy h1
   have hfree' : ∀ k ok, ops[k]? = some ok → k ≠ i → (listed.setIfInBounds j true).getD k true = false →
     (∀ e ∈ ok.after, Region.binds md e = true → e.on ≠ i) → oi.apart ops ok = true := fun k ok hk hki hun hno => by
    refine hfree k ok hk hki ?_ hno
    by_cases hjk : j = k
    ·subst hjk; exact hjun
    ·rw [getD_set_ne true hjk] at hun; exact hun
   refine wpOp_mono (fun a' w' h3 => ⟨h3.2.1, ih (listed.setIfInBounds j true) a' w' hfree' (ready_mono hr (Ne.symm hji)) h3.1 ?_⟩) h2
   rw [Array.setIfInBounds_comm _ _ hji]
   exact h3.2.2
theorem wpAnyLast_take {i : Nat} {oi : Oper} {v : Value} {fuel : Nat} {listed : Array Bool} {a : Act} {w : World} (hi : ops[i]? = some oi)
  (hs : Region.noSelect ops = true) (hf : Region.free md ops listed i = true) (hr : (Region.ready md ops listed).contains i = true)
  (hc : Region.closedB md ops listed = true) (hl : Region.lastB md ops listed ds i = true)
  (hQ : ∀ c a w, Q (.panic c) (a.put oi.dst v) w → Q (.panic c) a w) (hy : YieldsIf P ops S oi v a) (hS : S w)
  (h : wpAnyLast P md ops Q S ds fuel (listed.setIfInBounds i true) (a.put oi.dst v) w) : wpAnyLast P md ops Q S ds (fuel + 1) listed a w :=
 wpAnyLast_first hi (Region.noSelect_spec hs) hQ ops.size fuel listed a w (Region.free_spec hi hf) (Region.closedB_spec hc)
  (fun d hm hun => by have := List.all_eq_true.1 hl d hm; rw [hun] at this; simpa using this) (by simpa using hr) hy hS h
theorem wpAnyLast_all {rs : List Nat} {fuel : Nat} {listed : Array Bool} {a : Act} {w : World} (hr : Region.ready md ops listed = rs) (hne : rs ≠ [])
  (h : ∀ i ∈ rs, wpOp P ops Q i (fun a' w' => (i ∉ ds → S w → S w') ∧ wpAnyLast P md ops Q S ds fuel (listed.setIfInBounds i true) a' w') a w) : wpAnyLast P md ops Q S ds (fuel + 1) listed a w :=
 ⟨fun h0 => absurd (hr ▸ h0) hne, hr ▸ h⟩
theorem wpAnyLast_done {listed : Array Bool} {a : Act} {w : World} (hr : Region.ready md ops listed = []) (h : Q .normal a w) :
  ∀ fuel, wpAnyLast P md ops Q S ds fuel listed a w
 | 0 => ⟨hr, h⟩
 | _ + 1 => ⟨fun _ => h, by rw [hr]; simp⟩
theorem wp_region_last {id : Nat} {a : Act} {w : World} (hm : P.follows .mixedOrders = true)
  (h : wpAnyLast P .any ops Q S ds ops.size (Array.replicate ops.size false) a { w with drawn := w.drawn + 1 }) : (Code.region id ops true).wp P Q a w :=
 wp_region_any hm (wpAny_of_last _ _ _ _ h)
end
section
variable {P : Program} {ops : Array Oper} {Q : Exit → Act → World → Prop} {md : Region.Mode} {S : World → Prop} {ds : List Nat}
def AllReadyL (P : Program) (md : Region.Mode) (ops : Array Oper) (Q : Exit → Act → World → Prop) (S : World → Prop) (ds : List Nat) (fuel : Nat) (listed : Array Bool) (a : Act) (w : World) (rs : List Nat) : Prop :=
 ∀ i ∈ rs, wpOp P ops Q i (fun a' w' => (i ∉ ds → S w → S w') ∧ wpAnyLast P md ops Q S ds fuel (listed.setIfInBounds i true) a' w') a w
theorem AllReadyL.nil {fuel : Nat} {listed : Array Bool} {a : Act} {w : World} : AllReadyL P md ops Q S ds fuel listed a w [] := fun _ h => by cases h
theorem AllReadyL.cons {fuel : Nat} {listed : Array Bool} {a : Act} {w : World} {i : Nat} {o : Oper} {rs : List Nat} (ho : ops[i]? = some o) (hd : i ∉ ds)
  (h : ∀ K' : Act → World → Prop, Shut (∀ a w, S w → (S w → wpAnyLast P md ops Q S ds fuel (listed.setIfInBounds i true) a w) → K' a w) → if Region.wanted o (yielded ops a.tmps) = true then Oper.wp P o a w K' Q else K' (a.put o.dst undef) w)
  (hs : AllReadyL P md ops Q S ds fuel listed a w rs) : AllReadyL P md ops Q S ds fuel listed a w (i :: rs) := fun j hj => by
 rcases List.mem_cons.1 hj with rfl | hj
 ·exact wpOp_step ho (fun K' hK => h K' (fun a w hS hW => hK a w ⟨fun _ _ => hS, hW hS⟩))
 ·exact hs j hj
theorem AllReadyL.cons_last {fuel : Nat} {listed : Array Bool} {a : Act} {w : World} {i : Nat} {o : Oper} {rs : List Nat} (ho : ops[i]? = some o) (hd : i ∈ ds)
  (h : ∀ K' : Act → World → Prop, Shut (∀ a w, wpAnyLast P md ops Q S ds fuel (listed.setIfInBounds i true) a w → K' a w) → if Region.wanted o (yielded ops a.tmps) = true then Oper.wp P o a w K' Q else K' (a.put o.dst undef) w)
  (hs : AllReadyL P md ops Q S ds fuel listed a w rs) : AllReadyL P md ops Q S ds fuel listed a w (i :: rs) := fun j hj => by
 rcases List.mem_cons.1 hj with rfl | hj
 ·exact wpOp_step ho (fun K' hK => h K' (fun a w hW => hK a w ⟨fun hn => absurd hd hn, hW⟩))
 ·exact hs j hj
theorem wpAnyLast_ready {rs : List Nat} {fuel : Nat} {listed : Array Bool} {a : Act} {w : World} (hr : Region.ready md ops listed = rs) (hne : rs ≠ [])
  (h : AllReadyL P md ops Q S ds fuel listed a w rs) : wpAnyLast P md ops Q S ds (fuel + 1) listed a w := wpAnyLast_all hr hne h
theorem start_ {id n : Nat} {a : Act} {w : World} (l : Array Bool) (hm : P.follows .mixedOrders = true) (hn : ops.size = n) (hl : Array.replicate n false = l) (hS : S w.drew)
  (h : S w.drew → wpAnyLast P .any ops Q S ds n l a w.drew) : (Code.region id ops true).wp P Q a w := by
 subst hn
 subst hl
 exact wp_region_last hm (h hS)
def takeB (md : Region.Mode) (ops : Array Oper) (ds : List Nat) (l l' : Array Bool) (i : Nat) : Bool :=
 Region.noSelect ops && Region.free md ops l i && (Region.ready md ops l).contains i && Region.closedB md ops l && Region.lastB md ops l ds i && (l.setIfInBounds i true == l')
theorem take_ {i : Nat} {N : Option Tmp} {oi : Oper} {v : Value} {fuel : Nat} {l : Array Bool} {a : Act} {w : World} (l' : Array Bool) (hi : ops[i]? = some oi) (hN : oi.dst = N) (hc : takeB md ops ds l l' i = true)
  (hQ : ∀ c a w, Q (.panic c) (a.put oi.dst v) w → Q (.panic c) a w) (hy : YieldsIf P ops S oi v a) (hS : S w) {a' : Act} (ha : a.put N v = a')
  (h : wpAnyLast P md ops Q S ds fuel l' a' w) : wpAnyLast P md ops Q S ds (fuel + 1) l a w := by
 subst ha
 subst hN
 simp only [takeB, Bool.and_eq_true, beq_iff_eq] at hc
 obtain ⟨⟨⟨⟨⟨h1, h2⟩, h3⟩, h4⟩, h5⟩, h6⟩ := hc
 subst h6
 exact wpAnyLast_take hi h1 h2 h3 h4 h5 hQ hy hS h
def anyB (md : Region.Mode) (ops : Array Oper) (l l' : Array Bool) (i : Nat) : Bool :=
 Region.noSelect ops && Region.free md ops l i && (Region.ready md ops l).contains i && (l.setIfInBounds i true == l')
theorem pure_ {i : Nat} {N : Option Tmp} {oi : Oper} {v : Value} {fuel : Nat} {l : Array Bool} {a : Act} {w : World} (l' : Array Bool) (hi : ops[i]? = some oi) (hN : oi.dst = N) (hc : anyB md ops l l' i = true)
  (hQ : ∀ c a w, Q (.panic c) (a.put oi.dst v) w → Q (.panic c) a w) (hy : Yields P ops oi v a) {a' : Act} (ha : a.put N v = a')
  (h : wpAnyLast P md ops Q S ds fuel l' a' w) : wpAnyLast P md ops Q S ds (fuel + 1) l a w := by
 subst ha
 subst hN
 simp only [anyB, Bool.and_eq_true, beq_iff_eq] at hc
 obtain ⟨⟨⟨h1, h2⟩, h3⟩, h6⟩ := hc
 subst h6
 exact wpAnyLast_any hi (Region.noSelect_spec h1) hQ fuel l a w (Region.free_spec hi h2) (by simpa using h3) hy h
def readyB (md : Region.Mode) (ops : Array Oper) (l l' : Array Bool) (i : Nat) : Bool := (Region.ready md ops l == [i]) && (l.setIfInBounds i true == l')
theorem one_ {i : Nat} {N : Option Tmp} {oi : Oper} {fuel : Nat} {l : Array Bool} {a : Act} {w : World} (l' : Array Bool) (hi : ops[i]? = some oi) (hN : oi.dst = N) (hc : readyB md ops l l' i = true) (hd : i ∉ ds)
  (h : ∀ K : Act → World → Prop, Shut (∀ a' w', S w' → (S w' → wpAnyLast P md ops Q S ds fuel l' a' w') → K a' w') → if Region.wanted oi (yielded ops a.tmps) = true then Oper.wp P oi a w K Q else K (a.put N undef) w) :
  wpAnyLast P md ops Q S ds (fuel + 1) l a w := by
 subst hN
 simp only [readyB, Bool.and_eq_true, beq_iff_eq] at hc
 obtain ⟨h1, h2⟩ := hc
 subst h2
 exact wpAnyLast_ready h1 (by simp) (AllReadyL.cons hi hd (fun K hK => h K hK) AllReadyL.nil)
theorem last_ {i : Nat} {N : Option Tmp} {oi : Oper} {fuel : Nat} {l : Array Bool} {a : Act} {w : World} (l' : Array Bool) (hi : ops[i]? = some oi) (hN : oi.dst = N) (hc : readyB md ops l l' i = true) (hd : i ∈ ds)
  (h : ∀ K : Act → World → Prop, Shut (∀ a' w', wpAnyLast P md ops Q S ds fuel l' a' w' → K a' w') → if Region.wanted oi (yielded ops a.tmps) = true then Oper.wp P oi a w K Q else K (a.put N undef) w) :
  wpAnyLast P md ops Q S ds (fuel + 1) l a w := by
 subst hN
 simp only [readyB, Bool.and_eq_true, beq_iff_eq] at hc
 obtain ⟨h1, h2⟩ := hc
 subst h2
 exact wpAnyLast_ready h1 (by simp) (AllReadyL.cons_last hi hd (fun K hK => h K hK) AllReadyL.nil)
theorem done_ {l : Array Bool} {a : Act} {w : World} {n : Nat} (hr : (Region.ready md ops l == []) = true) (h : Q .normal a w) : wpAnyLast P md ops Q S ds n l a w := wpAnyLast_done (by simpa using hr) h n
theorem norm_ {fuel : Nat} {l : Array Bool} {a a' : Act} {w : World} (ha : a = a') (h : wpAnyLast P md ops Q S ds fuel l a' w) : wpAnyLast P md ops Q S ds fuel l a w := by
 subst ha
 exact h
theorem enters_ {f : FuncId} {fn : Func} (hf : P.funcs[f]? = some fn) (hname : (fn.name == "runtime.NumGoroutine") = false) (hb : fn.body.isSome = true) (args : Array Value) (w : World) : (callFunc f args).run P w = .ok (.enter f args) w := by
 have h1 : fn.name ≠ "runtime.NumGoroutine" := by simpa using hname
 obtain ⟨c, hc⟩ := Option.isSome_iff_exists.1 hb
 simp [callFunc, hf, h1, hc]
theorem goesL_ {rest : List Oper} {oi : Oper} {a : Act} {w : World} (N : Option Tmp) (hd : oi.dst = N) (hg : oi.guard = none) {f : FuncId} {fn : Func} {as_ : Array Operand} {ts : Array TypeId} (hf : P.funcs[f]? = some fn) (hname : (fn.name == "runtime.NumGoroutine") = false) (hb : fn.body.isSome = true) (args : Array Value)
  (hop : oi.op = .call { callee := .value (.func f), args := as_, argTypes := ts }) (hargs : as_.map a.eval = args)
  (h : Calls P f args w fun e w' => ∃ v, e = .returned v ∧ wpList P ops Q rest (a.put N v) w') : wpList P ops Q (oi :: rest) a w := by
 refine wpList_plain hg fun K hK => ?_
 have he := enters_ hf hname hb args w
 have hrun : (execOp a.eval oi).run P w = .ok (.enter f args) w := by
  unfold execOp
  simp [hop, resolve, Deferred.ofValue, invoke, Act.eval, hargs, he]
 unfold Oper.wp
 rw [hrun, Oper.upon_enter]
 refine h.mono fun e w'' hh => ?_
 obtain ⟨v, rfl, hk⟩ := hh
 subst hd
 exact hK _ _ hk
theorem skip_ {oi : Oper} {a : Act} {w w1 : World} {K : Act → World → Prop} (hw : Region.wanted oi (yielded ops a.tmps) = true) (hN : oi.dst = none) (hrun : (execOp a.eval oi).run P w = .ok .skip w1)
  (h : K a w1) : if Region.wanted oi (yielded ops a.tmps) = true then Oper.wp P oi a w K Q else K (a.put none undef) w := by
 rw [if_pos hw]
 unfold Oper.wp
 rw [hrun]
 show K (a.put oi.dst undef) w1
 rw [hN]
 exact h
end
end Go.Proofs.YtfgedbakbljgfaaW.PrintLast
namespace Go.Proofs.YtfgedbakbljgfaaW.PrintLast
open Go.Proofs.YtfgedbakbljgfaaW.PrintWords (Aside0)
def needsOf (md : Region.Mode) (o : Oper) : List Nat := (o.after.toList.filter (fun e => Region.binds md e)).map (fun e => e.on)
def clashOf (md : Region.Mode) (ops : Array Oper) (i : Nat) (oi : Oper) : List Nat := (List.range ops.size).filter fun j => !(j == i) && match ops[j]? with
 | some oj => !(oj.after.any (fun e => Region.binds md e && e.on == i) || oi.apart ops oj)
 | none => false
def rtab (md : Region.Mode) (ops : Array Oper) : Bool × List (List Nat × List Nat) := (Region.noSelect ops, (List.range ops.size).map fun i => match ops[i]? with
 | some o => (needsOf md o, clashOf md ops i o)
 | none => ([], []))
def readyAt (T : List (List Nat × List Nat)) (l : List Bool) (i : Nat) : Bool := !l.getD i true && match T[i]? with
 | some r => r.1.all (fun j => l.getD j false)
 | none => false
def readyT (T : List (List Nat × List Nat)) (l : List Bool) : List Nat := (List.range T.length).filter (readyAt T l)
def freeT (T : List (List Nat × List Nat)) (l : List Bool) (i : Nat) : Bool := match T[i]? with
 | some r => r.2.all (fun j => l.getD j true)
 | none => false
def closedT (T : List (List Nat × List Nat)) (l : List Bool) : Bool := (List.range T.length).all fun j => !l.getD j false || match T[j]? with
 | some r => r.1.all (fun k => l.getD k false)
 | none => true
def reachT (T : List (List Nat × List Nat)) (i : Nat) : Nat → Nat → Bool
 | 0, _ => false
 | fuel + 1, d => match T[d]? with
  | some r => r.1.any fun j => j == i || reachT T i fuel j
  | none => false
def lastT (T : List (List Nat × List Nat)) (l : List Bool) (ds : List Nat) (i : Nat) : Bool := ds.all fun d => l.getD d true || reachT T i T.length d
section
variable {md : Region.Mode} {ops : Array Oper} {T : Bool × List (List Nat × List Nat)} {l l' li lj lk : Array Bool} {ds : List Nat} {i j k : Nat}
theorem gd (l : Array Bool) (j : Nat) (b : Bool) : l.getD j b = l.toList.getD j b := by simp [Array.getD_eq_getD_getElem?, List.getD_eq_getElem?_getD]
theorem needs_all (o : Oper) (p : Nat → Bool) : o.after.all (fun e => !Region.binds md e || p e.on) = (needsOf md o).all p := by
 unfold needsOf
 rw [← Array.all_toList]
 induction o.after.toList with
 | nil => rfl
 | cons e r ih =>
  rw [List.all_cons, ih, List.filter_cons]
  cases h : Region.binds md e <;> simp
theorem needs_any (o : Oper) (p : Nat → Bool) : o.after.any (fun e => Region.binds md e && p e.on) = (needsOf md o).any p := by
 unfold needsOf
 rw [← Array.any_toList]
 induction o.after.toList with
 | nil => rfl
 | cons e r ih =>
  rw [List.any_cons, ih, List.filter_cons]
  cases h : Region.binds md e <;> simp
theorem rtab_length : (rtab md ops).2.length = ops.size := by simp [rtab]
theorem rtab_some {o : Oper} (h : ops[i]? = some o) : (rtab md ops).2[i]? = some (needsOf md o, clashOf md ops i o) := by
 have hi := (Array.getElem?_eq_some_iff.1 h).1
 unfold rtab
 rw [List.getElem?_map, List.getElem?_range hi, Option.map_some, h]
theorem rtab_none (h : ops[i]? = none) : (rtab md ops).2[i]? = none := by
 have hi : ops.size ≤ i := Array.getElem?_eq_none_iff.1 h
 exact List.getElem?_eq_none (by rw [rtab_length]; exact hi)
theorem readyAt_eq : readyAt (rtab md ops).2 l.toList i = (!l.getD i true && ((ops[i]?).map (·.after.all fun e => !Region.binds md e || l.getD e.on false)).getD false) := by
 unfold readyAt
 rw [gd]
 cases h : ops[i]? with
 | none => rw [rtab_none h]; rfl
 | some o =>
  rw [rtab_some h]
  simp only [Option.map_some, Option.getD_some]
  rw [← needs_all]
  simp only [gd]
theorem ready_eq : Region.ready md ops l = readyT (rtab md ops).2 l.toList := by
 unfold Region.ready readyT
 rw [rtab_length]
 refine List.filter_congr (fun i _ => ?_)
 rw [readyAt_eq]
theorem free_eq : Region.free md ops l i = freeT (rtab md ops).2 l.toList i := by
 unfold Region.free freeT
 cases h : ops[i]? with
 | none => rw [rtab_none h]
 | some oi =>
  rw [rtab_some h]
  simp only [clashOf]
  rw [List.all_filter]
  congr 1
  funext j
  rw [gd]
  cases hj : ops[j]? with
  | none => cases (j == i) <;> cases (l.toList.getD j true) <;> simp
  | some oj =>
   cases (j == i) <;> cases (l.toList.getD j true) <;> cases (oj.after.any (fun e => Region.binds md e && e.on == i) || oi.apart ops oj) <;> simp_all
theorem closed_eq : Region.closedB md ops l = closedT (rtab md ops).2 l.toList := by
 unfold Region.closedB closedT
 rw [rtab_length]
 congr 1
 funext j
 rw [gd]
 cases h : ops[j]? with
 | none => rw [rtab_none h]
 | some o =>
  rw [rtab_some h]
  simp only
  rw [← needs_all]
  simp only [gd]
theorem reach_eq : ∀ (fuel d : Nat), Region.reachB md ops i fuel d = reachT (rtab md ops).2 i fuel d
 | 0, _ => rfl
 | fuel + 1, d => by
  unfold Region.reachB reachT
  cases h : ops[d]? with
  | none => rw [rtab_none h]
  | some o =>
   rw [rtab_some h]
   simp only
   rw [← needs_any]
   congr 1
   funext e
   rw [reach_eq fuel]
theorem last_eq : Region.lastB md ops l ds i = lastT (rtab md ops).2 l.toList ds i := by
 unfold Region.lastB lastT
 rw [rtab_length]
 congr 1
 funext d
 rw [gd, reach_eq]
theorem readyAt_mem (h : readyAt T.2 l.toList i = true) (hT : rtab md ops = T) : (Region.ready md ops l).contains i = true := by
 subst hT
 rw [ready_eq]
 unfold readyT
 rw [List.contains_iff_mem, List.mem_filter, List.mem_range]
 refine ⟨?_, h⟩
 unfold readyAt at h
 rw [Bool.and_eq_true] at h
 cases hq : (rtab md ops).2[i]? with
 | none => rw [hq] at h; simp at h
 | some r => exact (List.getElem?_eq_some_iff.1 hq).1
theorem set_of (h : (l.toList.set i true == l'.toList) = true) : (l.setIfInBounds i true == l') = true := by
 rw [beq_iff_eq] at h ⊢
 apply Array.ext'
 rw [Array.toList_setIfInBounds]
 exact h
def anyT (T : Bool × List (List Nat × List Nat)) (l l' : List Bool) (i : Nat) : Bool := T.1 && freeT T.2 l i && readyAt T.2 l i && (l.set i true == l')
theorem any_of (hT : rtab md ops = T) (h : anyT T l.toList l'.toList i = true) : anyB md ops l l' i = true := by
 simp only [anyT, Bool.and_eq_true] at h
 obtain ⟨⟨⟨h1, h2⟩, h3⟩, h4⟩ := h
 have h5 := readyAt_mem h3 hT
 have h6 := set_of h4
 subst hT
 simp only [anyB, Bool.and_eq_true]
 exact ⟨⟨⟨h1, by rw [free_eq]; exact h2⟩, h5⟩, h6⟩
def takeT (T : Bool × List (List Nat × List Nat)) (ds : List Nat) (l l' : List Bool) (i : Nat) : Bool := T.1 && freeT T.2 l i && readyAt T.2 l i && closedT T.2 l && lastT T.2 l ds i && (l.set i true == l')
theorem take_of (hT : rtab md ops = T) (h : takeT T ds l.toList l'.toList i = true) : takeB md ops ds l l' i = true := by
 simp only [takeT, Bool.and_eq_true] at h
 obtain ⟨⟨⟨⟨⟨h1, h2⟩, h3⟩, h4⟩, h5⟩, h6⟩ := h
 have h7 := readyAt_mem h3 hT
 have h8 := set_of h6
 subst hT
 simp only [takeB, Bool.and_eq_true]
 exact ⟨⟨⟨⟨⟨h1, by rw [free_eq]; exact h2⟩, h7⟩, by rw [closed_eq]; exact h4⟩, by rw [last_eq]; exact h5⟩, h8⟩
theorem one_of (hT : rtab md ops = T) (h : (readyT T.2 l.toList == [i] && l.toList.set i true == l'.toList) = true) : readyB md ops l l' i = true := by
 simp only [Bool.and_eq_true] at h
 obtain ⟨h1, h2⟩ := h
 subst hT
 simp only [readyB, Bool.and_eq_true]
 exact ⟨by rw [ready_eq]; exact h1, set_of h2⟩
theorem done_of (hT : rtab md ops = T) (h : (readyT T.2 l.toList == []) = true) : (Region.ready md ops l == []) = true := by
 subst hT
 rw [ready_eq]
 exact h
def upM (B : List Nat) (d : Nat) : List Nat → Nat
 | [] => 0
 | n :: r => (2 ^ n ||| (if n < d then B.getD n 0 else 0)) ||| upM B d r
def waitsOk (T : List (List Nat × List Nat)) (B : List Nat) : Bool := (List.range T.length).all fun d => match T[d]? with
 | some r => (B.getD d 0 ||| upM B d r.1) == upM B d r.1
 | none => false
theorem upM_bit {B : List Nat} {d i : Nat} : ∀ {ns : List Nat}, (upM B d ns).testBit i = true → ∃ n ∈ ns, n = i ∨ (n < d ∧ (B.getD n 0).testBit i = true)
 | [], h => by simp [upM] at h
 | n :: r, h => by
  unfold upM at h
  rw [Nat.testBit_or, Nat.testBit_or, Bool.or_eq_true, Bool.or_eq_true] at h
  rcases h with (h | h) | h
  ·rw [Nat.testBit_two_pow] at h
   exact ⟨n, List.mem_cons_self, .inl (by simpa using h)⟩
  ·by_cases hn : n < d
   ·rw [if_pos hn] at h
    exact ⟨n, List.mem_cons_self, .inr ⟨hn, h⟩⟩
   ·rw [if_neg hn] at h
    simp at h
  ·obtain ⟨m, hm, h2⟩ := upM_bit h
   exact ⟨m, List.mem_cons_of_mem _ hm, h2⟩
theorem reach_bit {T : List (List Nat × List Nat)} {B : List Nat} (hB : waitsOk T B = true) : ∀ (fuel d : Nat), d < fuel → d < T.length → (B.getD d 0).testBit i = true → reachT T i fuel d = true
 | 0, d, h, _, _ => by omega
 | fuel + 1, d, h, hd, hb => by
  have h1 := List.all_eq_true.1 hB d (List.mem_range.2 hd)
  cases hr : T[d]? with
  | none => rw [hr] at h1; simp at h1
  | some r =>
   rw [hr] at h1
   simp only [beq_iff_eq] at h1
   have h2 : (upM B d r.1).testBit i = true := by rw [← h1, Nat.testBit_or, hb, Bool.true_or]
   obtain ⟨n, hn, h3⟩ := upM_bit h2
   unfold reachT
   rw [hr]
   simp only
   rw [List.any_eq_true]
   refine ⟨n, hn, ?_⟩
   rcases h3 with rfl | ⟨h4, h5⟩
   ·simp
   ·rw [reach_bit hB fuel n (by omega) (by omega) h5, Bool.or_true]
def lastW (T : List (List Nat × List Nat)) (B : List Nat) (l : List Bool) (ds : List Nat) (i : Nat) : Bool := ds.all fun d => l.getD d true || (decide (d < T.length) && (B.getD d 0).testBit i)
def takeW (T : Bool × List (List Nat × List Nat)) (B : List Nat) (ds : List Nat) (l l' : List Bool) (i : Nat) : Bool := T.1 && freeT T.2 l i && readyAt T.2 l i && closedT T.2 l && lastW T.2 B l ds i && (l.set i true == l')
theorem take_ofW {B : List Nat} (hT : rtab md ops = T) (hB : waitsOk T.2 B = true) (h : takeW T B ds l.toList l'.toList i = true) : takeB md ops ds l l' i = true := by
 refine take_of hT ?_
 simp only [takeW, takeT, Bool.and_eq_true] at h ⊢
 obtain ⟨⟨⟨⟨⟨h1, h2⟩, h3⟩, h4⟩, h5⟩, h6⟩ := h
 refine ⟨⟨⟨⟨⟨h1, h2⟩, h3⟩, h4⟩, ?_⟩, h6⟩
 unfold lastW at h5
 unfold lastT
 rw [List.all_eq_true] at h5 ⊢
 intro d hd
 have h7 := h5 d hd
 rw [Bool.or_eq_true, Bool.and_eq_true, decide_eq_true_eq] at h7
 rcases h7 with h7 | ⟨h8, h9⟩
 ·rw [h7, Bool.true_or]
 ·rw [reach_bit hB _ d h8 h8 h9, Bool.or_true]
theorem with_tabW {P : Program} {Q : Exit → Act → World → Prop} {S : World → Prop} {n : Nat} {a : Act} {w : World} {B : List Nat} (hT : rtab md ops = T) (hB : waitsOk T.2 B = true) (h : Aside0 (rtab md ops = T) → Aside0 (waitsOk T.2 B = true) → wpAnyLast P md ops Q S ds n l a w) : wpAnyLast P md ops Q S ds n l a w := h ⟨hT⟩ ⟨hB⟩
end
def opsIn : Code → Nat → Option (Array Oper)
 | .region id ops _, k => if id == k then some ops else none
 | .seq a b, k => match opsIn a k with
  | some o => some o
  | none => opsIn b k
 | .cond _ a b, k => match opsIn a k with
  | some o => some o
  | none => opsIn b k
 | .block _ c, k => opsIn c k
 | .loop c, k => opsIn c k
 | .scope c, k => opsIn c k
 | .rangeFunc _ _ a b, k => match opsIn a k with
  | some o => some o
  | none => opsIn b k
 | _, _ => none
def opsOf (f : Func) (k : Nat) : Array Oper := ((f.body.bind fun c => opsIn c k)).getD #[]
end Go.Proofs.YtfgedbakbljgfaaW.PrintLast
namespace Go.Proofs.YtfgedbakbljgfaaW.PrintLast
end Go.Proofs.YtfgedbakbljgfaaW.PrintLast
namespace Go.Proofs.YtfgedbakbljgfaaW.PrintWords
open Go.RowKit
namespace Kd
end Kd
end Go.Proofs.YtfgedbakbljgfaaW.PrintWords
