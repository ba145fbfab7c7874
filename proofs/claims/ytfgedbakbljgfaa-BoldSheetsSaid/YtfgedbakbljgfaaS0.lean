/- Part 5 of a proof: no statement of its own. -/
import Derived.Test.YtfgedbakbljgfaaB4
import Derived.Laws.Tables
set_option linter.unusedVariables false
set_option linter.unusedSimpArgs false
set_option maxRecDepth 20000
namespace Go.Proofs.Ytfgedbakbljgfaa.PBoldSheets
open Go.RowKit Go.Proofs.YtfgedbakbljgfaaW.PrintWords Go.Proofs.YtfgedbakbljgfaaW.PrintLast Go.Proofs.YtfgedbakbljgfaaW.PrintMore
attribute [local go_sem] max2_int min2_int max_two min_two max_three min_three max_four min_four
set_option maxHeartbeats 8000000 in
set_option maxRecDepth 100000 in
theorem wayzgooseref09_within.calls (a0 : Int) (a1 : Int) (a2 : Int) (r : Bool) (w : World) (h : wayzgooseref09_within.f a0 a1 a2 = some r) :
  Calls Try.prog 62 #[.int .i64 a0, .int .i64 a1, .int .i64 a2] w fun e w' => e = .returned (.bool r) ∧ Drawn0 w w' := by
 have H : (if a0 ≥ a1 then (some (decide (a0 ≤ a2))) else (some false)) = some r := h
 clear h
 by_cases c4 : a0 ≥ a1
 ·rw [if_pos c4] at H
  have c4b0 : decide (a1 ≤ a0) = true := decide_eq_true c4
  clear c4
  obtain rfl := Option.some.inj H
  go_enter Try.func62, Try.ntmps62
  go_wp2
  go_ret
  exact ⟨by first | rfl | (simp; done) | (simp [*]; done), by repeat (first | exact Drawn0.refl _ | apply Drawn0.step)⟩
 ·rw [if_neg c4] at H
  have c4b0 : decide (a1 ≤ a0) = false := decide_eq_false c4
  clear c4
  obtain rfl := Option.some.inj H
  go_enter Try.func62, Try.ntmps62
  go_wp2
  go_ret
  exact ⟨by first | rfl | (simp; done) | (simp [*]; done), by repeat (first | exact Drawn0.refl _ | apply Drawn0.step)⟩
set_option maxHeartbeats 8000000 in
set_option maxRecDepth 100000 in
theorem wayzgooseref09_Sheets.calls (a0 : Int) (a1 : Int) (a2 : Int) (r1 : Int) (r2 : Int) (r3 : Int) (w : World) (h : wayzgooseref09_Sheets.f a0 a1 a2 = some (r1, r2, r3)) :
  Calls Try.prog 21 #[.int .i64 a0, .int .i64 a1, .int .i64 a2] w fun e w' => e = .returned (.tuple #[.int .i64 r1, .int .i64 r2, .int .i64 r3]) ∧ Drawn0 w w' := by
 have H : ((wayzgooseref09_within.f a0 0 100000).bind fun jC => (if jC = true then ((wayzgooseref09_within.f a1 1 200).bind fun jB => (if jB = true then ((wayzgooseref09_within.f a2 1 64).bind fun jA => (if jA = true then (if (wrap64 (a1 * a2)) = 0 then (none) else (some (wrap64 (Int.tdiv (wrap64 ((wrap64 (a0 + (wrap64 (a1 * a2)))) - 1)) (wrap64 (a1 * a2))), wrap64 ((wrap64 ((wrap64 ((wrap64 (Int.tdiv (wrap64 ((wrap64 (a0 + (wrap64 (a1 * a2)))) - 1)) (wrap64 (a1 * a2)))) * a1)) * a2)) - a0), 0))) else (some (0, 0, 1)))) else (some (0, 0, 1)))) else (some (0, 0, 1)))) = some (r1, r2, r3) := h
 clear h
 replace H := Option.bind_eq_some_iff.mp H
 obtain ⟨jC, A40, H⟩ := H
 replace H : (if jC = true then ((wayzgooseref09_within.f a1 1 200).bind fun jB => (if jB = true then ((wayzgooseref09_within.f a2 1 64).bind fun jA => (if jA = true then (if (wrap64 (a1 * a2)) = 0 then (none) else (some (wrap64 (Int.tdiv (wrap64 ((wrap64 (a0 + (wrap64 (a1 * a2)))) - 1)) (wrap64 (a1 * a2))), wrap64 ((wrap64 ((wrap64 ((wrap64 (Int.tdiv (wrap64 ((wrap64 (a0 + (wrap64 (a1 * a2)))) - 1)) (wrap64 (a1 * a2)))) * a1)) * a2)) - a0), 0))) else (some (0, 0, 1)))) else (some (0, 0, 1)))) else (some (0, 0, 1))) = some (r1, r2, r3) := H
 have A4 := Aside0.mk A40
 clear A40
 by_cases c5 : jC = true
 ·subst c5
  have H1 : ((wayzgooseref09_within.f a1 1 200).bind fun jB => (if jB = true then ((wayzgooseref09_within.f a2 1 64).bind fun jA => (if jA = true then (if (wrap64 (a1 * a2)) = 0 then (none) else (some (wrap64 (Int.tdiv (wrap64 ((wrap64 (a0 + (wrap64 (a1 * a2)))) - 1)) (wrap64 (a1 * a2))), wrap64 ((wrap64 ((wrap64 ((wrap64 (Int.tdiv (wrap64 ((wrap64 (a0 + (wrap64 (a1 * a2)))) - 1)) (wrap64 (a1 * a2)))) * a1)) * a2)) - a0), 0))) else (some (0, 0, 1)))) else (some (0, 0, 1)))) = some (r1, r2, r3) := by rw [if_pos rfl] at H; exact H
  clear H
  have H := H1
  clear H1
  replace H := Option.bind_eq_some_iff.mp H
  obtain ⟨jB, A60, H⟩ := H
  replace H : (if jB = true then ((wayzgooseref09_within.f a2 1 64).bind fun jA => (if jA = true then (if (wrap64 (a1 * a2)) = 0 then (none) else (some (wrap64 (Int.tdiv (wrap64 ((wrap64 (a0 + (wrap64 (a1 * a2)))) - 1)) (wrap64 (a1 * a2))), wrap64 ((wrap64 ((wrap64 ((wrap64 (Int.tdiv (wrap64 ((wrap64 (a0 + (wrap64 (a1 * a2)))) - 1)) (wrap64 (a1 * a2)))) * a1)) * a2)) - a0), 0))) else (some (0, 0, 1)))) else (some (0, 0, 1))) = some (r1, r2, r3) := H
  have A6 := Aside0.mk A60
  clear A60
  by_cases c7 : jB = true
  ·subst c7
   have H1 : ((wayzgooseref09_within.f a2 1 64).bind fun jA => (if jA = true then (if (wrap64 (a1 * a2)) = 0 then (none) else (some (wrap64 (Int.tdiv (wrap64 ((wrap64 (a0 + (wrap64 (a1 * a2)))) - 1)) (wrap64 (a1 * a2))), wrap64 ((wrap64 ((wrap64 ((wrap64 (Int.tdiv (wrap64 ((wrap64 (a0 + (wrap64 (a1 * a2)))) - 1)) (wrap64 (a1 * a2)))) * a1)) * a2)) - a0), 0))) else (some (0, 0, 1)))) = some (r1, r2, r3) := by rw [if_pos rfl] at H; exact H
   clear H
   have H := H1
   clear H1
   replace H := Option.bind_eq_some_iff.mp H
   obtain ⟨jA, A80, H⟩ := H
   replace H : (if jA = true then (if (wrap64 (a1 * a2)) = 0 then (none) else (some (wrap64 (Int.tdiv (wrap64 ((wrap64 (a0 + (wrap64 (a1 * a2)))) - 1)) (wrap64 (a1 * a2))), wrap64 ((wrap64 ((wrap64 ((wrap64 (Int.tdiv (wrap64 ((wrap64 (a0 + (wrap64 (a1 * a2)))) - 1)) (wrap64 (a1 * a2)))) * a1)) * a2)) - a0), 0))) else (some (0, 0, 1))) = some (r1, r2, r3) := H
   have A8 := Aside0.mk A80
   clear A80
   by_cases c9 : jA = true
   ·subst c9
    have H1 : (if (wrap64 (a1 * a2)) = 0 then (none) else (some (wrap64 (Int.tdiv (wrap64 ((wrap64 (a0 + (wrap64 (a1 * a2)))) - 1)) (wrap64 (a1 * a2))), wrap64 ((wrap64 ((wrap64 ((wrap64 (Int.tdiv (wrap64 ((wrap64 (a0 + (wrap64 (a1 * a2)))) - 1)) (wrap64 (a1 * a2)))) * a1)) * a2)) - a0), 0))) = some (r1, r2, r3) := by rw [if_pos rfl] at H; exact H
    clear H
    have H := H1
    clear H1
    by_cases c10 : (wrap64 (a1 * a2)) = 0
    ·rw [if_pos c10] at H
     exact absurd H (by simp)
    ·rw [if_neg c10] at H
     have c10b0 : ((wrap64 (a1 * a2)) == 0) = false := beq_eq_false_iff_ne.mpr c10
     have c10b1 : ((wrap64 (a1 * a2)) != 0) = true := bne_iff_ne.mpr c10
     simp only [Option.some.injEq, Prod.mk.injEq] at H
     obtain ⟨rfl, rfl, rfl⟩ := H
     go_enter Try.func21, Try.ntmps21
     go_wp2_with (first | ((with_reducible refine gate_callee (f := 62) rfl ?_); refine goesL_ (some 11) rfl rfl Try.func62 (by kernel_rfl) rfl #[.int .i64 a0, .int .i64 0, .int .i64 100000] rfl (by (try simp only [List.map_toArray, List.map_cons, List.map_nil]); first | done | rfl | (simp only [List.length_drop, List.length_take]; rfl)) ?_; (with_reducible refine (wayzgooseref09_within.calls a0 0 100000 true _ A4.out).mono ?_); rintro e w' ⟨rfl, ⟨nd, rfl⟩⟩; refine ⟨_, rfl, ?_⟩) | (go_at_call 62; (with_reducible refine (wayzgooseref09_within.calls a1 1 200 true _ A6.out).mono ?_); rintro e w' ⟨rfl, ⟨nd, rfl⟩⟩) | (go_at_call 62; (with_reducible refine (wayzgooseref09_within.calls a2 1 64 true _ A8.out).mono ?_); rintro e w' ⟨rfl, ⟨nd, rfl⟩⟩))
     go_ret3
     exact ⟨by first | rfl | (simp; done) | (simp [*]; done), by repeat (first | exact Drawn0.refl _ | apply Drawn0.step)⟩
   ·replace c9 := Bool.eq_false_iff.mpr c9
    subst c9
    have H1 : (some (0, 0, 1)) = some (r1, r2, r3) := by rw [if_neg (show ¬ (false = true) by decide)] at H; exact H
    clear H
    have H := H1
    clear H1
    simp only [Option.some.injEq, Prod.mk.injEq] at H
    obtain ⟨rfl, rfl, rfl⟩ := H
    go_enter Try.func21, Try.ntmps21
    go_wp2_with (first | ((with_reducible refine gate_callee (f := 62) rfl ?_); refine goesL_ (some 11) rfl rfl Try.func62 (by kernel_rfl) rfl #[.int .i64 a0, .int .i64 0, .int .i64 100000] rfl (by (try simp only [List.map_toArray, List.map_cons, List.map_nil]); first | done | rfl | (simp only [List.length_drop, List.length_take]; rfl)) ?_; (with_reducible refine (wayzgooseref09_within.calls a0 0 100000 true _ A4.out).mono ?_); rintro e w' ⟨rfl, ⟨nd, rfl⟩⟩; refine ⟨_, rfl, ?_⟩) | (go_at_call 62; (with_reducible refine (wayzgooseref09_within.calls a1 1 200 true _ A6.out).mono ?_); rintro e w' ⟨rfl, ⟨nd, rfl⟩⟩) | (go_at_call 62; (with_reducible refine (wayzgooseref09_within.calls a2 1 64 false _ A8.out).mono ?_); rintro e w' ⟨rfl, ⟨nd, rfl⟩⟩))
    go_ret3
    exact ⟨by first | rfl | (simp; done) | (simp [*]; done), by repeat (first | exact Drawn0.refl _ | apply Drawn0.step)⟩
  ·replace c7 := Bool.eq_false_iff.mpr c7
   subst c7
   have H1 : (some (0, 0, 1)) = some (r1, r2, r3) := by rw [if_neg (show ¬ (false = true) by decide)] at H; exact H
   clear H
   have H := H1
   clear H1
   simp only [Option.some.injEq, Prod.mk.injEq] at H
   obtain ⟨rfl, rfl, rfl⟩ := H
   go_enter Try.func21, Try.ntmps21
   go_wp2_with (first | ((with_reducible refine gate_callee (f := 62) rfl ?_); refine goesL_ (some 11) rfl rfl Try.func62 (by kernel_rfl) rfl #[.int .i64 a0, .int .i64 0, .int .i64 100000] rfl (by (try simp only [List.map_toArray, List.map_cons, List.map_nil]); first | done | rfl | (simp only [List.length_drop, List.length_take]; rfl)) ?_; (with_reducible refine (wayzgooseref09_within.calls a0 0 100000 true _ A4.out).mono ?_); rintro e w' ⟨rfl, ⟨nd, rfl⟩⟩; refine ⟨_, rfl, ?_⟩) | (go_at_call 62; (with_reducible refine (wayzgooseref09_within.calls a1 1 200 false _ A6.out).mono ?_); rintro e w' ⟨rfl, ⟨nd, rfl⟩⟩))
   go_ret3
   exact ⟨by first | rfl | (simp; done) | (simp [*]; done), by repeat (first | exact Drawn0.refl _ | apply Drawn0.step)⟩
 ·replace c5 := Bool.eq_false_iff.mpr c5
  subst c5
  have H1 : (some (0, 0, 1)) = some (r1, r2, r3) := by rw [if_neg (show ¬ (false = true) by decide)] at H; exact H
  clear H
  have H := H1
  clear H1
  simp only [Option.some.injEq, Prod.mk.injEq] at H
  obtain ⟨rfl, rfl, rfl⟩ := H
  go_enter Try.func21, Try.ntmps21
  go_wp2_with (first | ((with_reducible refine gate_callee (f := 62) rfl ?_); refine goesL_ (some 11) rfl rfl Try.func62 (by kernel_rfl) rfl #[.int .i64 a0, .int .i64 0, .int .i64 100000] rfl (by (try simp only [List.map_toArray, List.map_cons, List.map_nil]); first | done | rfl | (simp only [List.length_drop, List.length_take]; rfl)) ?_; (with_reducible refine (wayzgooseref09_within.calls a0 0 100000 false _ A4.out).mono ?_); rintro e w' ⟨rfl, ⟨nd, rfl⟩⟩; refine ⟨_, rfl, ?_⟩))
  go_ret3
  exact ⟨by first | rfl | (simp; done) | (simp [*]; done), by repeat (first | exact Drawn0.refl _ | apply Drawn0.step)⟩
end Go.Proofs.Ytfgedbakbljgfaa.PBoldSheets
namespace Go.Ov
open Go.Conc Go.Proofs Go.RowKit Go.Maps Go.Proofs.YtfgedbakbljgfaaW.PrintWords Go.Proofs.YtfgedbakbljgfaaW.PrintLast Go.Proofs.YtfgedbakbljgfaaW.PrintMore Go.Proofs.Ytfgedbakbljgfaa.PBoldSheets
noncomputable def c63_0 : Array Oper := (fun {c} (_ : rg Try.f63 0 = some c) => c) rfl
noncomputable def c63_1 : Array Oper := (fun {c} (_ : rg Try.f63 1 = some c) => c) rfl
noncomputable def b63 : Code := (.seq (.region 0 c63_0 false) (.seq (.region 1 c63_1 false) Code.ret))
theorem body63 : Try.f63.body = some b63 := by kernel_rfl
noncomputable def c64_0 : Array Oper := (fun {c} (_ : rg Try.f64 0 = some c) => c) rfl
noncomputable def c64_1 : Array Oper := (fun {c} (_ : rg Try.f64 1 = some c) => c) rfl
noncomputable def c64_2 : Array Oper := (fun {c} (_ : rg Try.f64 2 = some c) => c) rfl
noncomputable def c64_3 : Array Oper := (fun {c} (_ : rg Try.f64 3 = some c) => c) rfl
noncomputable def b64 : Code := (.seq (.region 0 c64_0 false) (.seq (.region 1 c64_1 false) (.seq (.region 2 c64_2 true) (.seq (.region 3 c64_3 false) Code.ret))))
theorem body64 : Try.f64.body = some b64 := by kernel_rfl
abbrev adC : List S39 := [⟨0, 1, 1⟩, ⟨1, 2, 2⟩, ⟨2, 3, 3⟩]
abbrev adS : List S39 := [⟨0, 1, 1⟩, ⟨2, 3, 3⟩]
def flat39 (l : List S39) : List Value := l.flatMap fun x => [.int .i64 x.f0, .int .i64 x.f1, .int .i64 x.f2]
theorem flat39_get : ∀ (l : List S39) (j : Nat) (x : S39), l[j]? = some x → (flat39 l)[j * 3 + 0]? = some (.int .i64 x.f0) ∧ (flat39 l)[j * 3 + 1]? = some (.int .i64 x.f1) ∧ (flat39 l)[j * 3 + 2]? = some (.int .i64 x.f2)
 | [], j, x, h => by simp at h
 | y :: l, 0, x, h => by
  obtain rfl : y = x := by simpa using h
  exact ⟨rfl, rfl, rfl⟩
 | y :: l, j + 1, x, h => by
  have := flat39_get l j x (by simpa using h)
  have e : flat39 (y :: l) = .int .i64 y.f0 :: .int .i64 y.f1 :: .int .i64 y.f2 :: flat39 l := rfl
  rw [e, show (j + 1) * 3 + 0 = j * 3 + 0 + 3 by omega, show (j + 1) * 3 + 1 = j * 3 + 1 + 3 by omega, show (j + 1) * 3 + 2 = j * 3 + 2 + 3 by omega]
  exact this
theorem k39_block {l : List S39} {g : Nat} {w : World} (h : w.heap[g]? = some (.cells (flat39 l).toArray 39 (0, 0))) (hl : l.length ≤ 1000) : Kd.C k39 w (some ⟨g, 0, none⟩) l.length l := by
 refine ⟨rfl, by omega, fun _ => ⟨_, rfl, fun j x hx => ?_⟩⟩
 have hc : ∀ i, w.cell? ⟨g, i, none⟩ = (flat39 l)[i]? := fun i => by rw [blk_cell h]; simp
 obtain ⟨h0, h1, h2⟩ := flat39_get l j x hx
 refine ⟨[.int .i64 x.f0, .int .i64 x.f1, .int .i64 x.f2], rfl, ?_, fun i u hu => ?_⟩
 ·exact k39_mk w x
 ·have hi : i < 3 := (List.getElem?_eq_some_iff.1 hu).1
  show w.cell? ((⟨g, 0, none⟩ : Addr).add (j * 3 + i)) = some u
  rw [add_plain, hc]
  match i, hi with
  | 0, _ => rw [h0]; exact hu
  | 1, _ => rw [h1]; exact hu
  | 2, _ => rw [h2]; exact hu
abbrev zero36 : Array Value := #[.int .i64 0, .int .i64 0, .int .i64 0, .int .i64 0, .int .i64 0, .int .i64 0, .slice none 0 0, .slice none 0 0]
theorem info36 : (Try.prog.info? 36).map (·.size) = some 8 := by kernel_rfl
theorem below_setRow {n : Nat} {w w1 : World} (h : Below n w w1) {g : Nat} (hg : n ≤ g) (cs : Array Value) : Below n w (w1.setRow g cs) :=
 ⟨h.os, h.tape, h.output, by rw [setRow_size]; exact h.size, fun k hk => (setRow_other w1 g k cs (by omega)).trans (h.block k hk)⟩
set_option maxHeartbeats 1000000 in
theorem calls63b (w : World) : Calls Try.prog 63 #[] w fun e w' => ∃ v, e = .returned v ∧ ∃ gs ga, v = .agg (sal 10 25 5 40 10 2 (some ⟨gs, 0, none⟩) 3 3 (some ⟨ga, 0, none⟩) 3 3) ∧ (w.heap.size ≤ gs ∧ w.heap.size ≤ ga) ∧ w'.heap[gs]? = some (.cells (nums .i64 [0, 0, 3]).toArray 3 (0, 0)) ∧ w'.heap[ga]? = some (.cells (flat39 adC).toArray 39 (0, 0)) ∧ Below w.heap.size w w' := by
 refine calls_of_to (tmps := #[undef, undef, undef, undef, undef, undef, undef, undef]) Try.func63 body63 (by kernel_rfl) fun cs => ?_
 unfold b63
 refine To.seq (To.code fun Kc hKc => ?_)
 unfold c63_0
 go_wp2
 have hz := heap_alloc_new w (.cells zero36 36)
 have hb : Below w.heap.size w (w.alloc (.cells zero36 36)) := (Below.refl _ _).alloc (Nat.le_refl _) _
 change Kc _ (w.alloc (.cells zero36 36))
 generalize w.alloc (.cells zero36 36) = W at hz hb ⊢
 have hs : w.heap.size ≤ W.heap.size := hb.size
 have hlt := blk_lt hz
 have b1 : Below W.heap.size W (W.alloc (.cells #[.int .i64 0, .int .i64 0, .int .i64 3] 3)) := (Below.refl _ _).alloc (Nat.le_refl _) _
 have s1 : (W.alloc (.cells #[.int .i64 0, .int .i64 0, .int .i64 3] 3)).heap.size = W.heap.size + 1 := by simp
 have n1 : (W.alloc (.cells #[.int .i64 0, .int .i64 0, .int .i64 3] 3)).heap[W.heap.size]? = some (.cells (nums .i64 [0, 0, 3]).toArray 3 (0, 0)) := heap_alloc_new W _
 have b2 : Below (W.heap.size + 1) (W.alloc (.cells #[.int .i64 0, .int .i64 0, .int .i64 3] 3)) ((W.alloc (.cells #[.int .i64 0, .int .i64 0, .int .i64 3] 3)).alloc (.cells #[.int .i64 0, .int .i64 1, .int .i64 1, .int .i64 1, .int .i64 2, .int .i64 2, .int .i64 2, .int .i64 3, .int .i64 3] 39)) := s1 ▸ (Below.refl _ _).alloc (Nat.le_refl _) _
 have n2 := heap_alloc_new (W.alloc (.cells #[.int .i64 0, .int .i64 0, .int .i64 3] 3)) (.cells #[.int .i64 0, .int .i64 1, .int .i64 1, .int .i64 1, .int .i64 2, .int .i64 2, .int .i64 2, .int .i64 3, .int .i64 3] 39)
 rw [s1] at n2
 have m1 := (b2.block _ (by omega)).trans n1
 have hz2 := (b2.block _ (by omega)).trans ((b1.block _ hlt).trans hz)
 have hbb := hb.trans ((b1.trans (b2.mono (by omega))).mono hs)
 refine hKc _ _ (To.seq (To.code fun Kc hKc => ?_))
 unfold c63_1
 go_wp2_with (refine wpList_store_row rfl 36 (.tmp 0) (.tmp 7) rfl w.heap.size _ rfl rfl 36 zero36 hz2 info36 rfl (by simp [Value.oneCell']) ?_)
 have hr := setRow_heap _ w.heap.size zero36 (sal 10 25 5 40 10 2 (some ⟨W.heap.size, 0, none⟩) 3 3 (some ⟨W.heap.size + 1, 0, none⟩) 3 3) 36 (0, 0) hz2
 refine hKc _ _ ?_
 refine (To.ret (v := .agg (sal 10 25 5 40 10 2 (some ⟨W.heap.size, 0, none⟩) 3 3 (some ⟨W.heap.size + 1, 0, none⟩) 3 3)) Try.func63 rfl ?_ ⟨_, _, rfl, ⟨by omega, by omega⟩, ?_, ?_, below_setRow hbb (Nat.le_refl _) _⟩)
 ·exact results_cell_row rfl _ _ w.heap.size 36 _ (0, 0) _ rfl hr Try.underlying36 rfl info36
 ·exact (setRow_other _ _ _ _ (by omega)).trans m1
 ·exact (setRow_other _ _ _ _ (by omega)).trans n2
theorem calls63 (w : World) : Calls Try.prog 63 #[] w fun e w' => ∃ v, e = .returned v ∧ ∃ As cs0 Aa ca, v = .agg (sal 10 25 5 40 10 2 As 3 cs0 Aa 3 ca) ∧ Lists w' As 3 cs0 Aa 3 ca [0, 0, 3] adC ∧ Below w.heap.size w w' := by
 refine Calls.mono (calls63b w) ?_
 rintro e W ⟨v, rfl, gs, ga, rfl, -, h1, h2, hb⟩
 exact ⟨_, rfl, _, _, _, _, rfl, ⟨kd_block (l := [0, 0, 3]) h1 (by decide), k39_block (l := adC) h2 (by decide), rfl, rfl, Nat.le_refl _, Nat.le_refl _⟩, hb⟩
noncomputable def h64_2 : Array Oper := c64_2.extract 0 9
theorem cut64_2 : Cut .any c64_2 h64_2 9 2 := by
 refine Cut.of (fun i hi => ?_) (by kernel_rfl)
 have : i = 0 ∨ i = 1 ∨ i = 2 ∨ i = 3 ∨ i = 4 ∨ i = 5 ∨ i = 6 ∨ i = 7 ∨ i = 8 := by omega
 rcases this with rfl | rfl | rfl | rfl | rfl | rfl | rfl | rfl | rfl <;> rfl
set_option maxHeartbeats 1000000 in
theorem calls64 (w : World) : Calls Try.prog 64 #[] w fun e w' => ∃ v, e = .returned v ∧ ∃ As cs0 Aa ca, v = .agg (sal 10 25 5 40 10 2 As 3 cs0 Aa 2 ca) ∧ Lists w' As 3 cs0 Aa 2 ca [0, 0, 3] adS ∧ Below w.heap.size w w' := by
 refine calls_of_to (tmps := #[undef, undef, undef, undef, undef, undef, undef, undef, undef, undef, undef, undef, undef, undef]) Try.func64 body64 (by kernel_rfl) fun cs => ?_
 unfold b64
 refine To.seq (To.code fun Kc hKc => ?_)
 unfold c64_0
 go_wp2
 have hz := heap_alloc_new w (.cells zero36 36)
 have hb : Below w.heap.size w (w.alloc (.cells zero36 36)) := (Below.refl _ _).alloc (Nat.le_refl _) _
 change Kc _ (w.alloc (.cells zero36 36))
 generalize w.alloc (.cells zero36 36) = W at hz hb ⊢
 refine hKc _ _ (To.seq (To.code fun Kc hKc => ?_))
 have C63 : Hid _ := calls63b W
 unfold c64_1
 go_wp2_with (go_at_call 63; refine Calls.mono C63.out ?_; rintro e W1 ⟨_, rfl, gs, ga, rfl, ⟨hgs, hga⟩, hls, hla, hb1⟩; dsimp only)
 have hs1 := hb1.size
 have hbx := heap_alloc_new W1 (.cells (sal 10 25 5 40 10 2 (some ⟨gs, 0, none⟩) 3 3 (some ⟨ga, 0, none⟩) 3 3) 36)
 have hb2 : Below W1.heap.size W1 (W1.alloc (.cells (sal 10 25 5 40 10 2 (some ⟨gs, 0, none⟩) 3 3 (some ⟨ga, 0, none⟩) 3 3) 36)) := (Below.refl _ _).alloc (Nat.le_refl _) _
 have hz1 := (hb1.block _ (blk_lt hz)).trans hz
 have hz2 := (hb2.block _ (blk_lt hz1)).trans hz1
 have hls2 := (hb2.block _ (blk_lt hls)).trans hls
 have hla2 := (hb2.block _ (blk_lt hla)).trans hla
 have hlt1 := blk_lt hls
 have hlt2 := blk_lt hla
 have hltz := blk_lt hz
 have hbw := (hb.trans (hb1.mono hb.size)).trans (hb2.mono (Nat.le_trans hb.size hs1))
 have hgw : w.heap.size ≤ W1.heap.size := Nat.le_trans hb.size hs1
 change Kc _ (W1.alloc (.cells (sal 10 25 5 40 10 2 (some ⟨gs, 0, none⟩) 3 3 (some ⟨ga, 0, none⟩) 3 3) 36))
 generalize W1.alloc (.cells (sal 10 25 5 40 10 2 (some ⟨gs, 0, none⟩) 3 3 (some ⟨ga, 0, none⟩) 3 3) 36) = W2 at hbx hz2 hls2 hla2 hbw ⊢
 generalize W1.heap.size = B at hbx hgw hs1 hlt1 hlt2 ⊢
 clear hz hz1 hb hb1 hb2 hls hla C63
 refine hKc _ _ (To.seq (To.code fun Kc hKc => ?_))
 refine wp_region_cut (by kernel_rfl) cut64_2 (wpAny_of_held (S := fun w' => Below W2.heap.size W2 w') _ _ _ _ ?_)
 have hS : Below W2.heap.size W2 ({ W2 with drawn := W2.drawn + 1 } : World) := ⟨rfl, rfl, rfl, Nat.le_refl _, fun _ _ => rfl⟩
 generalize ({ W2 with drawn := W2.drawn + 1 } : World) = V at hS ⊢
 unfold h64_2
 have l7 : ∀ w', Below W2.heap.size W2 w' → w'.cell? ⟨B, 7, none⟩ = some (.slice (some ⟨ga, 0, none⟩) 3 3) := fun w' q => blk_cell ((q.block _ (blk_lt hbx)).trans hbx) 7
 have l0 : ∀ w', Below W2.heap.size W2 w' → ∀ i, w'.cell? ⟨ga, i, none⟩ = (flat39 adC)[i]? := fun w' q i => by rw [blk_cell ((q.block _ (blk_lt hla2)).trans hla2)]; simp
 replace l0 : Hid _ := l0
 refine tk 0 ⟨some 3, .fieldAddr 36 (.tmp 1) 2, 0, "outright.go:18", #[], none⟩ (.pointer (some ⟨B, 7, none⟩)) (.inl ⟨by rfl, ?_⟩) hS ?_
 ·intro w' q
  have q7 := l7 w' q
  have p0 : w'.cell? ⟨ga, 0, none⟩ = some (.int .i64 0) := l0.out w' q 0
  have p1 : w'.cell? ⟨ga, 1, none⟩ = some (.int .i64 1) := l0.out w' q 1
  have p2 : w'.cell? ⟨ga, 2, none⟩ = some (.int .i64 1) := l0.out w' q 2
  have p6 : w'.cell? ⟨ga, 6, none⟩ = some (.int .i64 2) := l0.out w' q 6
  have p7 : w'.cell? ⟨ga, 7, none⟩ = some (.int .i64 3) := l0.out w' q 7
  have p8 : w'.cell? ⟨ga, 8, none⟩ = some (.int .i64 3) := l0.out w' q 8
  go_simp
 try simp only [pt]
 refine tk 1 ⟨some 4, .load 34 (.tmp 3), 34, "outright.go:18", #[⟨0, .data⟩], none⟩ (.slice (some ⟨ga, 0, none⟩) 3 3) (.inl ⟨by rfl, ?_⟩) hS ?_
 ·intro w' q
  have q7 := l7 w' q
  have p0 : w'.cell? ⟨ga, 0, none⟩ = some (.int .i64 0) := l0.out w' q 0
  have p1 : w'.cell? ⟨ga, 1, none⟩ = some (.int .i64 1) := l0.out w' q 1
  have p2 : w'.cell? ⟨ga, 2, none⟩ = some (.int .i64 1) := l0.out w' q 2
  have p6 : w'.cell? ⟨ga, 6, none⟩ = some (.int .i64 2) := l0.out w' q 6
  have p7 : w'.cell? ⟨ga, 7, none⟩ = some (.int .i64 3) := l0.out w' q 7
  have p8 : w'.cell? ⟨ga, 8, none⟩ = some (.int .i64 3) := l0.out w' q 8
  go_simp
 try simp only [pt]
 refine tk 2 ⟨some 5, .indexAddr 34 (.tmp 4) (.const (.int .i64 0)), 0, "outright.go:18", #[⟨1, .data⟩], none⟩ (.pointer (some ⟨ga, 0, none⟩)) (.inl ⟨by rfl, ?_⟩) hS ?_
 ·intro w' q
  have q7 := l7 w' q
  have p0 : w'.cell? ⟨ga, 0, none⟩ = some (.int .i64 0) := l0.out w' q 0
  have p1 : w'.cell? ⟨ga, 1, none⟩ = some (.int .i64 1) := l0.out w' q 1
  have p2 : w'.cell? ⟨ga, 2, none⟩ = some (.int .i64 1) := l0.out w' q 2
  have p6 : w'.cell? ⟨ga, 6, none⟩ = some (.int .i64 2) := l0.out w' q 6
  have p7 : w'.cell? ⟨ga, 7, none⟩ = some (.int .i64 3) := l0.out w' q 7
  have p8 : w'.cell? ⟨ga, 8, none⟩ = some (.int .i64 3) := l0.out w' q 8
  go_simp
 try simp only [pt]
 refine tk 3 ⟨some 6, .load 39 (.tmp 5), 39, "outright.go:18", #[⟨2, .data⟩], none⟩ (.agg #[.int .i64 0, .int .i64 1, .int .i64 1]) (.inl ⟨by rfl, ?_⟩) hS ?_
 ·intro w' q
  have q7 := l7 w' q
  have p0 : w'.cell? ⟨ga, 0, none⟩ = some (.int .i64 0) := l0.out w' q 0
  have p1 : w'.cell? ⟨ga, 1, none⟩ = some (.int .i64 1) := l0.out w' q 1
  have p2 : w'.cell? ⟨ga, 2, none⟩ = some (.int .i64 1) := l0.out w' q 2
  have p6 : w'.cell? ⟨ga, 6, none⟩ = some (.int .i64 2) := l0.out w' q 6
  have p7 : w'.cell? ⟨ga, 7, none⟩ = some (.int .i64 3) := l0.out w' q 7
  have p8 : w'.cell? ⟨ga, 8, none⟩ = some (.int .i64 3) := l0.out w' q 8
  go_simp
 try simp only [pt]
 refine tk 4 ⟨some 7, .fieldAddr 36 (.tmp 1) 2, 0, "outright.go:18", #[], none⟩ (.pointer (some ⟨B, 7, none⟩)) (.inl ⟨by rfl, ?_⟩) hS ?_
 ·intro w' q
  have q7 := l7 w' q
  have p0 : w'.cell? ⟨ga, 0, none⟩ = some (.int .i64 0) := l0.out w' q 0
  have p1 : w'.cell? ⟨ga, 1, none⟩ = some (.int .i64 1) := l0.out w' q 1
  have p2 : w'.cell? ⟨ga, 2, none⟩ = some (.int .i64 1) := l0.out w' q 2
  have p6 : w'.cell? ⟨ga, 6, none⟩ = some (.int .i64 2) := l0.out w' q 6
  have p7 : w'.cell? ⟨ga, 7, none⟩ = some (.int .i64 3) := l0.out w' q 7
  have p8 : w'.cell? ⟨ga, 8, none⟩ = some (.int .i64 3) := l0.out w' q 8
  go_simp
 try simp only [pt]
 refine tk 5 ⟨some 8, .load 34 (.tmp 7), 34, "outright.go:18", #[⟨4, .data⟩], none⟩ (.slice (some ⟨ga, 0, none⟩) 3 3) (.inl ⟨by rfl, ?_⟩) hS ?_
 ·intro w' q
  have q7 := l7 w' q
  have p0 : w'.cell? ⟨ga, 0, none⟩ = some (.int .i64 0) := l0.out w' q 0
  have p1 : w'.cell? ⟨ga, 1, none⟩ = some (.int .i64 1) := l0.out w' q 1
  have p2 : w'.cell? ⟨ga, 2, none⟩ = some (.int .i64 1) := l0.out w' q 2
  have p6 : w'.cell? ⟨ga, 6, none⟩ = some (.int .i64 2) := l0.out w' q 6
  have p7 : w'.cell? ⟨ga, 7, none⟩ = some (.int .i64 3) := l0.out w' q 7
  have p8 : w'.cell? ⟨ga, 8, none⟩ = some (.int .i64 3) := l0.out w' q 8
  go_simp
 try simp only [pt]
 refine tk 6 ⟨some 9, .indexAddr 34 (.tmp 8) (.const (.int .i64 2)), 0, "outright.go:18", #[⟨5, .data⟩], none⟩ (.pointer (some ⟨ga, 6, none⟩)) (.inl ⟨by rfl, ?_⟩) hS ?_
 ·intro w' q
  have q7 := l7 w' q
  have p0 : w'.cell? ⟨ga, 0, none⟩ = some (.int .i64 0) := l0.out w' q 0
  have p1 : w'.cell? ⟨ga, 1, none⟩ = some (.int .i64 1) := l0.out w' q 1
  have p2 : w'.cell? ⟨ga, 2, none⟩ = some (.int .i64 1) := l0.out w' q 2
  have p6 : w'.cell? ⟨ga, 6, none⟩ = some (.int .i64 2) := l0.out w' q 6
  have p7 : w'.cell? ⟨ga, 7, none⟩ = some (.int .i64 3) := l0.out w' q 7
  have p8 : w'.cell? ⟨ga, 8, none⟩ = some (.int .i64 3) := l0.out w' q 8
  go_simp
 try simp only [pt]
 refine tk 7 ⟨some 10, .load 39 (.tmp 9), 39, "outright.go:18", #[⟨6, .data⟩], none⟩ (.agg #[.int .i64 2, .int .i64 3, .int .i64 3]) (.inl ⟨by rfl, ?_⟩) hS ?_
 ·intro w' q
  have q7 := l7 w' q
  have p0 : w'.cell? ⟨ga, 0, none⟩ = some (.int .i64 0) := l0.out w' q 0
  have p1 : w'.cell? ⟨ga, 1, none⟩ = some (.int .i64 1) := l0.out w' q 1
  have p2 : w'.cell? ⟨ga, 2, none⟩ = some (.int .i64 1) := l0.out w' q 2
  have p6 : w'.cell? ⟨ga, 6, none⟩ = some (.int .i64 2) := l0.out w' q 6
  have p7 : w'.cell? ⟨ga, 7, none⟩ = some (.int .i64 3) := l0.out w' q 7
  have p8 : w'.cell? ⟨ga, 8, none⟩ = some (.int .i64 3) := l0.out w' q 8
  go_simp
 try simp only [pt]
 refine wpAnyH_all (rs := [8]) (by kernel_rfl) (by decide) fun i hi => ?_
 obtain rfl : i = 8 := by simpa using hi
 have hba : Below V.heap.size V (V.alloc (.cells #[.int .i64 0, .int .i64 1, .int .i64 1, .int .i64 2, .int .i64 3, .int .i64 3] 39)) := (Below.refl _ _).alloc (Nat.le_refl _) _
 have hn := heap_alloc_new V (.cells #[.int .i64 0, .int .i64 1, .int .i64 1, .int .i64 2, .int .i64 3, .int .i64 3] 39)
 have hS2 := hS.trans (hba.mono hS.size)
 unfold wpOp
 rw [show (c64_2.extract 0 9)[8]? = some (⟨some 11, .buildSlice 34 2 #[(0, .tmp 6), (1, .tmp 10)], 34, "outright.go:18", #[⟨3, .data⟩, ⟨7, .data⟩], none⟩) from rfl]
 have hw : ∀ y, Region.wanted (⟨some 11, .buildSlice 34 2 #[(0, .tmp 6), (1, .tmp 10)], 34, "outright.go:18", #[⟨3, .data⟩, ⟨7, .data⟩], none⟩ : Oper) y = true := fun y => rfl
 simp only [hw, if_true]
 left
 go_simp
 refine ⟨by kernel_rfl, ?_⟩
 clear l7 l0
 generalize V.alloc (.cells #[.int .i64 0, .int .i64 1, .int .i64 1, .int .i64 2, .int .i64 3, .int .i64 3] 39) = U at hn hS2 ⊢
 have hVs : V.heap.size ≠ B := by have := hS.size; have := blk_lt hbx; omega
 have hVw : V.heap.size ≠ w.heap.size := by have := hS.size; have := blk_lt hz2; omega
 generalize V.heap.size = G at hn hVs hVw ⊢
 have hbU := (hS2.block _ (blk_lt hbx)).trans hbx
 have q7 := blk_cell hbU 7
 have qf := blk_frozen hbU 7
 show wpOps Try.prog c64_2 _ [9, 10] _ _
 refine wpOps_step (o := ⟨some 12, .fieldAddr 36 (.tmp 1) 2, 0, "outright.go:18", #[⟨0, .phase⟩, ⟨1, .phase⟩, ⟨2, .phase⟩, ⟨3, .phase⟩, ⟨4, .phase⟩, ⟨5, .phase⟩, ⟨6, .phase⟩, ⟨7, .phase⟩, ⟨8, .phase⟩], none⟩) rfl rfl fun K' hK' => ?_
 go_simp
 refine hK' _ _ ?_
 clear hK' K'
 refine wpOps_step (o := ⟨none, .store 34 (.tmp 12) (.tmp 11), 0, "outright.go:18", #[⟨9, .data⟩, ⟨8, .data⟩, ⟨0, .phase⟩, ⟨1, .phase⟩, ⟨2, .phase⟩, ⟨3, .phase⟩, ⟨4, .phase⟩, ⟨5, .phase⟩, ⟨6, .phase⟩, ⟨7, .phase⟩, ⟨8, .phase⟩], none⟩) rfl rfl fun K' hK' => ?_
 go_simp
 refine hK' _ _ ?_
 clear hK' K'
 try simp only [pt]
 have L5 := blk_set hbU 7 (.slice (some ⟨G, 0, none⟩) 2 2)
 have hUB : Below w.heap.size w (U.setCell ⟨B, 7, none⟩ (.slice (some ⟨G, 0, none⟩) 2 2)) := (hbw.trans (hS2.mono hbw.size)).setCell hgw _
 have hz3 := (Below.heap_setCell U ⟨B, 7, none⟩ (.slice (some ⟨G, 0, none⟩) 2 2) w.heap.size (by show w.heap.size ≠ B; omega)).trans ((hS2.block _ (blk_lt hz2)).trans hz2)
 have hn3 := (Below.heap_setCell U ⟨B, 7, none⟩ (.slice (some ⟨G, 0, none⟩) 2 2) G (by exact hVs)).trans hn
 have hls3 := (Below.heap_setCell U ⟨B, 7, none⟩ (.slice (some ⟨G, 0, none⟩) 2 2) gs (by show gs ≠ B; omega)).trans ((hS2.block _ (blk_lt hls2)).trans hls2)
 show Kc _ _
 have e5 : (#[.int .i64 10, .int .i64 25, .int .i64 5, .int .i64 40, .int .i64 10, .int .i64 2, .slice (some ⟨gs, 0, none⟩) 3 3, .slice (some ⟨ga, 0, none⟩) 3 3] : Array Value).setIfInBounds 7 (.slice (some ⟨G, 0, none⟩) 2 2) = sal 10 25 5 40 10 2 (some ⟨gs, 0, none⟩) 3 3 (some ⟨G, 0, none⟩) 2 2 := by simp
 rw [e5] at L5
 generalize U.setCell ⟨B, 7, none⟩ (.slice (some ⟨G, 0, none⟩) 2 2) = X at L5 hUB hz3 hn3 hls3 ⊢
 refine hKc _ _ (To.seq (To.code fun Kc hKc => ?_))
 unfold c64_3
 go_wp2_with (first | refine wpList_load_row rfl 36 (.tmp 1) rfl B rfl 36 _ (0, 0) _ L5 Try.underlying36 rfl info36 ?_ | refine wpList_store_row rfl 36 (.tmp 0) (.tmp 13) rfl w.heap.size _ rfl rfl 36 zero36 hz3 info36 rfl (by simp [Value.oneCell']) ?_)
 have hr := setRow_heap _ w.heap.size zero36 (sal 10 25 5 40 10 2 (some ⟨gs, 0, none⟩) 3 3 (some ⟨G, 0, none⟩) 2 2) 36 (0, 0) hz3
 refine hKc _ _ ?_
 refine (To.ret (v := .agg (sal 10 25 5 40 10 2 (some ⟨gs, 0, none⟩) 3 3 (some ⟨G, 0, none⟩) 2 2)) Try.func64 rfl ?_ ⟨_, _, _, _, rfl, ⟨?_, ?_, rfl, rfl, Nat.le_refl _, Nat.le_refl _⟩, below_setRow hUB (Nat.le_refl _) _⟩)
 ·exact results_cell_row rfl _ _ w.heap.size 36 _ (0, 0) _ rfl hr Try.underlying36 rfl info36
 ·exact kd_block (l := [0, 0, 3]) ((setRow_other _ _ _ _ (by omega)).trans hls3) (by decide)
 ·exact k39_block (l := adS) (show _ = some (.cells (flat39 adS).toArray 39 (0, 0)) from (setRow_other _ _ _ _ hVw).trans hn3) (by decide)
end Go.Ov
namespace Go.Proofs.Ytfgedbakbljgfaa.PBoldSheets
open Go.RowKit Go.Proofs.YtfgedbakbljgfaaW.PrintWords Go.Proofs.YtfgedbakbljgfaaW.PrintLast Go.Proofs.YtfgedbakbljgfaaW.PrintMore
attribute [local go_sem] max2_int min2_int max_two min_two max_three min_three max_four min_four
def wayzgooselaw09_cards.f  : Option ((List (S107))) := some (([(⟨2, 30⟩ : S107), (⟨3, 50⟩ : S107), (⟨4, 60⟩ : S107)] : List (S107)))
set_option maxHeartbeats 8000000 in
set_option maxRecDepth 100000 in
theorem wayzgooselaw09_cards.calls  (r : List (S107)) (w : World) (h : wayzgooselaw09_cards.f  = some r) :
  Calls Try.prog 65 #[] w fun e w' => ∃ v0_ : Value, e = .returned (v0_) ∧ Kd.R k107 107 w' w.heap.size (fun _ => True) v0_ r ∧ Below w.heap.size w w' := by
 have hu107 := Try.underlying107
 have HB := Aside0.mk (Below.refl w.heap.size w)
 have H : (some (([(⟨2, 30⟩ : S107), (⟨3, 50⟩ : S107), (⟨4, 60⟩ : S107)] : List (S107)))) = some r := h
 clear h
 obtain ⟨y201, hy201⟩ : ∃ y_ : List (S107), y_ = (([(⟨2, 30⟩ : S107), (⟨3, 50⟩ : S107), (⟨4, 60⟩ : S107)] : List (S107))) := ⟨_, rfl⟩
 replace H : (some y201) = some r := by first | (rw [hy201]; with_reducible exact H) | (have H2_ := (Option.bind_some _ _).symm.trans H; rw [hy201]; with_reducible exact H2_) | (have H2_ := (Option.bind_some _ _).symm.trans H; with_reducible exact H2_) | with_reducible exact H | (rw [hy201]; exact H) | exact H
 have Ny201 := Aside0.mk hy201
 clear hy201
 obtain rfl := Option.some.inj H
 go_enter Try.func65, Try.ntmps65
 go_wp2_with (first | ((with_reducible refine gate_dst (N := 4) rfl ?_); refine Kd.R_lit k107 _ 107 ?hg (N := 4) ?hd (xs := ([(⟨2, 30⟩ : S107), (⟨3, 50⟩ : S107), (⟨4, 60⟩ : S107)] : List (S107))) (inner := [.int .i64 2, .int .i64 30, .int .i64 3, .int .i64 50, .int .i64 4, .int .i64 60]) (ok := fun _ => True) (okp := fun _ => True) ?hr ?hp (fun _ hk => hk) trivial (Below.refl _ _) (Nat.le_refl _) (by simp) ?_; (case hd => rfl); (case hg => rfl); (case hr => first | (go_simp; done) | (go_simp; rfl)); (case hp => exact (Reps.c2 (show Kd.M k107 _ _ _ (⟨2, 30⟩ : S107) [.int .i64 2, .int .i64 30] from (k107_mkM _ _ _ (⟨2, 30⟩ : S107) )) (Reps.c2 (show Kd.M k107 _ _ _ (⟨3, 50⟩ : S107) [.int .i64 3, .int .i64 50] from (k107_mkM _ _ _ (⟨3, 50⟩ : S107) )) (Reps.c2 (show Kd.M k107 _ _ _ (⟨4, 60⟩ : S107) [.int .i64 4, .int .i64 60] from (k107_mkM _ _ _ (⟨4, 60⟩ : S107) )) (Reps.none _ _))))); intro v202 w1 ho2 hb hg_ hnew_; clear hg_ hnew_; (first | rw [← Ny201.out] at ho2 | (simp only [Int.reduceToNat] at ho2; rw [← Ny201.out] at ho2)); have n0_ := Aside0.mk (Kd.R_lower ho2 (below_size (by repeat (first | (with_reducible first | exact HB.out | apply below_alloc | apply pw_below_drewN | apply below_drew1) | exact HB.out)))); have n1_ := Aside0.mk (below_step (by repeat (first | (with_reducible first | exact HB.out | apply below_alloc | apply pw_below_drewN | apply below_drew1) | exact HB.out)) hb); clear HB; have HO203 := n0_; have HB := n1_; clear n0_ n1_; clear hb ho2))
 go_ret
 exact ⟨_, by first | rfl | (simp [errW_none, errW_some] <;> rfl) | (simp [*, errW_none, errW_some] <;> rfl), by (with_reducible repeat (first | apply Kd.R_alloc | apply Kd.R_drewN | apply Kd.R_drew)); exact HO203.out, by repeat (first | (with_reducible first | exact HB.out | apply below_alloc | apply pw_below_drewN | apply below_drew1) | exact HB.out)⟩
def wayzgooselaw09_shops.f  : Option ((List (S122)) × (List (S68))) := some ((([(⟨(⟨#[102, 111, 111, 100]⟩ : ByteArray), (-1)⟩ : S122), (⟨(⟨#[98, 114, 101, 97, 100]⟩ : ByteArray), 0⟩ : S122), (⟨(⟨#[99, 108, 111, 116, 104]⟩ : ByteArray), (-1)⟩ : S122), (⟨(⟨#[104, 97, 116, 115]⟩ : ByteArray), 2⟩ : S122)] : List (S122))), (([(⟨(⟨#[98, 97, 107, 101, 114]⟩ : ByteArray), 1, (-1), ([] : List Int)⟩ : S68), (⟨(⟨#[98, 111, 110, 110, 101, 116, 115]⟩ : ByteArray), (-1), 3, ([] : List Int)⟩ : S68), (⟨(⟨#[99, 111, 110, 102, 101, 99, 116, 105, 111, 110, 101, 114]⟩ : ByteArray), 0, (-1), (([0] : List Int))⟩ : S68), (⟨(⟨#[104, 97, 116, 116, 101, 114]⟩ : ByteArray), 3, (-1), ([] : List Int)⟩ : S68), (⟨(⟨#[109, 101, 114, 99, 101, 114]⟩ : ByteArray), 2, (-1), (([3] : List Int))⟩ : S68), (⟨(⟨#[109, 105, 108, 108, 105, 110, 101, 114]⟩ : ByteArray), (-1), 1, ([] : List Int)⟩ : S68)] : List (S68))))
set_option maxHeartbeats 8000000 in
set_option maxRecDepth 100000 in
theorem wayzgooselaw09_shops.calls  (r1 : List (S122)) (r2 : List (S68)) (w : World) (h : wayzgooselaw09_shops.f  = some (r1, r2)) :
  Calls Try.prog 66 #[] w fun e w' => ∃ v0_ v1_ : Value, e = .returned (.agg #[v0_, v1_]) ∧ Kd.R k122 122 w' w.heap.size (fun k_ => (w.heap.size ≤ k_)) v0_ r1 ∧ Kd.N k68 68 w' w.heap.size (fun k_ => (w.heap.size ≤ k_) ∧ some k_ ≠ (v0_ : Value).ownBlock) v1_ r2 ∧ Below w.heap.size w w' := by
 have hu62 := Try.underlying62
 have hu122 := Try.underlying122
 have hu68 := Try.underlying68
 have HB := Aside0.mk (Below.refl w.heap.size w)
 have H : (some ((([(⟨(⟨#[102, 111, 111, 100]⟩ : ByteArray), (-1)⟩ : S122), (⟨(⟨#[98, 114, 101, 97, 100]⟩ : ByteArray), 0⟩ : S122), (⟨(⟨#[99, 108, 111, 116, 104]⟩ : ByteArray), (-1)⟩ : S122), (⟨(⟨#[104, 97, 116, 115]⟩ : ByteArray), 2⟩ : S122)] : List (S122))), (([(⟨(⟨#[98, 97, 107, 101, 114]⟩ : ByteArray), 1, (-1), ([] : List Int)⟩ : S68), (⟨(⟨#[98, 111, 110, 110, 101, 116, 115]⟩ : ByteArray), (-1), 3, ([] : List Int)⟩ : S68), (⟨(⟨#[99, 111, 110, 102, 101, 99, 116, 105, 111, 110, 101, 114]⟩ : ByteArray), 0, (-1), (([0] : List Int))⟩ : S68), (⟨(⟨#[104, 97, 116, 116, 101, 114]⟩ : ByteArray), 3, (-1), ([] : List Int)⟩ : S68), (⟨(⟨#[109, 101, 114, 99, 101, 114]⟩ : ByteArray), 2, (-1), (([3] : List Int))⟩ : S68), (⟨(⟨#[109, 105, 108, 108, 105, 110, 101, 114]⟩ : ByteArray), (-1), 1, ([] : List Int)⟩ : S68)] : List (S68))))) = some (r1, r2) := h
 clear h
 obtain ⟨y205, hy205⟩ : ∃ y_ : List (S122), y_ = (([(⟨(⟨#[102, 111, 111, 100]⟩ : ByteArray), (-1)⟩ : S122), (⟨(⟨#[98, 114, 101, 97, 100]⟩ : ByteArray), 0⟩ : S122), (⟨(⟨#[99, 108, 111, 116, 104]⟩ : ByteArray), (-1)⟩ : S122), (⟨(⟨#[104, 97, 116, 115]⟩ : ByteArray), 2⟩ : S122)] : List (S122))) := ⟨_, rfl⟩
 replace H : (some (y205, (([(⟨(⟨#[98, 97, 107, 101, 114]⟩ : ByteArray), 1, (-1), ([] : List Int)⟩ : S68), (⟨(⟨#[98, 111, 110, 110, 101, 116, 115]⟩ : ByteArray), (-1), 3, ([] : List Int)⟩ : S68), (⟨(⟨#[99, 111, 110, 102, 101, 99, 116, 105, 111, 110, 101, 114]⟩ : ByteArray), 0, (-1), (([0] : List Int))⟩ : S68), (⟨(⟨#[104, 97, 116, 116, 101, 114]⟩ : ByteArray), 3, (-1), ([] : List Int)⟩ : S68), (⟨(⟨#[109, 101, 114, 99, 101, 114]⟩ : ByteArray), 2, (-1), (([3] : List Int))⟩ : S68), (⟨(⟨#[109, 105, 108, 108, 105, 110, 101, 114]⟩ : ByteArray), (-1), 1, ([] : List Int)⟩ : S68)] : List (S68))))) = some (r1, r2) := by first | (rw [hy205]; with_reducible exact H) | (have H2_ := (Option.bind_some _ _).symm.trans H; rw [hy205]; with_reducible exact H2_) | (have H2_ := (Option.bind_some _ _).symm.trans H; with_reducible exact H2_) | with_reducible exact H | (rw [hy205]; exact H) | exact H
 have Ny205 := Aside0.mk hy205
 clear hy205
 obtain ⟨y208, hy208⟩ : ∃ y_ : List Int, y_ = (([0] : List Int)) := ⟨_, rfl⟩
 replace H : (some (y205, (([(⟨(⟨#[98, 97, 107, 101, 114]⟩ : ByteArray), 1, (-1), ([] : List Int)⟩ : S68), (⟨(⟨#[98, 111, 110, 110, 101, 116, 115]⟩ : ByteArray), (-1), 3, ([] : List Int)⟩ : S68), (⟨(⟨#[99, 111, 110, 102, 101, 99, 116, 105, 111, 110, 101, 114]⟩ : ByteArray), 0, (-1), y208⟩ : S68), (⟨(⟨#[104, 97, 116, 116, 101, 114]⟩ : ByteArray), 3, (-1), ([] : List Int)⟩ : S68), (⟨(⟨#[109, 101, 114, 99, 101, 114]⟩ : ByteArray), 2, (-1), (([3] : List Int))⟩ : S68), (⟨(⟨#[109, 105, 108, 108, 105, 110, 101, 114]⟩ : ByteArray), (-1), 1, ([] : List Int)⟩ : S68)] : List (S68))))) = some (r1, r2) := by first | (rw [hy208]; with_reducible exact H) | (have H2_ := (Option.bind_some _ _).symm.trans H; rw [hy208]; with_reducible exact H2_) | (have H2_ := (Option.bind_some _ _).symm.trans H; with_reducible exact H2_) | with_reducible exact H | (rw [hy208]; exact H) | exact H
 have Ny208 := Aside0.mk hy208
 clear hy208
 obtain ⟨y211, hy211⟩ : ∃ y_ : List Int, y_ = (([3] : List Int)) := ⟨_, rfl⟩
 replace H : (some (y205, (([(⟨(⟨#[98, 97, 107, 101, 114]⟩ : ByteArray), 1, (-1), ([] : List Int)⟩ : S68), (⟨(⟨#[98, 111, 110, 110, 101, 116, 115]⟩ : ByteArray), (-1), 3, ([] : List Int)⟩ : S68), (⟨(⟨#[99, 111, 110, 102, 101, 99, 116, 105, 111, 110, 101, 114]⟩ : ByteArray), 0, (-1), y208⟩ : S68), (⟨(⟨#[104, 97, 116, 116, 101, 114]⟩ : ByteArray), 3, (-1), ([] : List Int)⟩ : S68), (⟨(⟨#[109, 101, 114, 99, 101, 114]⟩ : ByteArray), 2, (-1), y211⟩ : S68), (⟨(⟨#[109, 105, 108, 108, 105, 110, 101, 114]⟩ : ByteArray), (-1), 1, ([] : List Int)⟩ : S68)] : List (S68))))) = some (r1, r2) := by first | (rw [hy211]; with_reducible exact H) | (have H2_ := (Option.bind_some _ _).symm.trans H; rw [hy211]; with_reducible exact H2_) | (have H2_ := (Option.bind_some _ _).symm.trans H; with_reducible exact H2_) | with_reducible exact H | (rw [hy211]; exact H) | exact H
 have Ny211 := Aside0.mk hy211
 clear hy211
 obtain ⟨y214, hy214⟩ : ∃ y_ : List (S68), y_ = (([(⟨(⟨#[98, 97, 107, 101, 114]⟩ : ByteArray), 1, (-1), ([] : List Int)⟩ : S68), (⟨(⟨#[98, 111, 110, 110, 101, 116, 115]⟩ : ByteArray), (-1), 3, ([] : List Int)⟩ : S68), (⟨(⟨#[99, 111, 110, 102, 101, 99, 116, 105, 111, 110, 101, 114]⟩ : ByteArray), 0, (-1), y208⟩ : S68), (⟨(⟨#[104, 97, 116, 116, 101, 114]⟩ : ByteArray), 3, (-1), ([] : List Int)⟩ : S68), (⟨(⟨#[109, 101, 114, 99, 101, 114]⟩ : ByteArray), 2, (-1), y211⟩ : S68), (⟨(⟨#[109, 105, 108, 108, 105, 110, 101, 114]⟩ : ByteArray), (-1), 1, ([] : List Int)⟩ : S68)] : List (S68))) := ⟨_, rfl⟩
 replace H : (some (y205, y214)) = some (r1, r2) := by first | (rw [hy214]; with_reducible exact H) | (have H2_ := (Option.bind_some _ _).symm.trans H; rw [hy214]; with_reducible exact H2_) | (have H2_ := (Option.bind_some _ _).symm.trans H; with_reducible exact H2_) | with_reducible exact H | (rw [hy214]; exact H) | exact H
 have Ny214 := Aside0.mk hy214
 clear hy214
 simp only [Option.some.injEq, Prod.mk.injEq] at H
 obtain ⟨rfl, rfl⟩ := H
 go_enter Try.func66, Try.ntmps66
 go_wp2_with (first | ((with_reducible refine gate_dst (N := 0) rfl ?_); refine box_event ?hg (N := 0) ?hd (cs := #[.slice none 0 0, .slice none 0 0]) (t := 62) ?hr ?_; (case hd => rfl); (case hg => rfl); (case hr => first | (go_simp; done) | (go_simp; rfl)); intro gb204 hg w1 hbox hb; have n0_ := Aside0.mk (below_step (by repeat (first | (with_reducible first | exact HB.out | apply below_alloc | apply pw_below_drewN | apply below_drew1) | exact HB.out)) hb); have n1_ := Aside0.mk (hbox); have n2_ := Aside0.mk ((by rw [hg]; exact (below_size (by repeat (first | (with_reducible first | exact HB.out | apply below_alloc | apply pw_below_drewN | apply below_drew1) | exact HB.out))) : w.heap.size ≤ gb204)); have n3_ := Aside0.mk ((by rw [hg]; exact (below_size (by repeat (first | (with_reducible first | exact HB.out | apply below_alloc | apply pw_below_drewN | apply below_drew1) | exact HB.out))) : w.heap.size ≤ gb204)); clear HB; have HB := n0_; have BK204 := n1_; have GW204 := n2_; have GE204 := n3_; clear n0_ n1_ n2_ n3_; clear hb hbox hg) | ((with_reducible refine gate_dst (N := 5) rfl ?_); refine Kd.R_lit k122 _ 122 ?hg (N := 5) ?hd (xs := ([(⟨(⟨#[102, 111, 111, 100]⟩ : ByteArray), (-1)⟩ : S122), (⟨(⟨#[98, 114, 101, 97, 100]⟩ : ByteArray), 0⟩ : S122), (⟨(⟨#[99, 108, 111, 116, 104]⟩ : ByteArray), (-1)⟩ : S122), (⟨(⟨#[104, 97, 116, 115]⟩ : ByteArray), 2⟩ : S122)] : List (S122))) (inner := [.string (⟨#[102, 111, 111, 100]⟩ : ByteArray), .int .i64 (-1), .string (⟨#[98, 114, 101, 97, 100]⟩ : ByteArray), .int .i64 0, .string (⟨#[99, 108, 111, 116, 104]⟩ : ByteArray), .int .i64 (-1), .string (⟨#[104, 97, 116, 115]⟩ : ByteArray), .int .i64 2]) (ok := fun _ => True) (okp := fun _ => True) ?hr ?hp (fun _ hk => hk) trivial (Below.refl _ _) (Nat.le_refl _) (by simp) ?_; (case hd => rfl); (case hg => rfl); (case hr => first | (go_simp; done) | (go_simp; rfl)); (case hp => exact (Reps.c2 (show Kd.M k122 _ _ _ (⟨(⟨#[102, 111, 111, 100]⟩ : ByteArray), (-1)⟩ : S122) [.string (⟨#[102, 111, 111, 100]⟩ : ByteArray), .int .i64 (-1)] from (k122_mkM _ _ _ (⟨(⟨#[102, 111, 111, 100]⟩ : ByteArray), (-1)⟩ : S122) )) (Reps.c2 (show Kd.M k122 _ _ _ (⟨(⟨#[98, 114, 101, 97, 100]⟩ : ByteArray), 0⟩ : S122) [.string (⟨#[98, 114, 101, 97, 100]⟩ : ByteArray), .int .i64 0] from (k122_mkM _ _ _ (⟨(⟨#[98, 114, 101, 97, 100]⟩ : ByteArray), 0⟩ : S122) )) (Reps.c2 (show Kd.M k122 _ _ _ (⟨(⟨#[99, 108, 111, 116, 104]⟩ : ByteArray), (-1)⟩ : S122) [.string (⟨#[99, 108, 111, 116, 104]⟩ : ByteArray), .int .i64 (-1)] from (k122_mkM _ _ _ (⟨(⟨#[99, 108, 111, 116, 104]⟩ : ByteArray), (-1)⟩ : S122) )) (Reps.c2 (show Kd.M k122 _ _ _ (⟨(⟨#[104, 97, 116, 115]⟩ : ByteArray), 2⟩ : S122) [.string (⟨#[104, 97, 116, 115]⟩ : ByteArray), .int .i64 2] from (k122_mkM _ _ _ (⟨(⟨#[104, 97, 116, 115]⟩ : ByteArray), 2⟩ : S122) )) (Reps.none _ _)))))); intro v206 w2 ho3 hb hg_ hnew_; clear hg_ hnew_; (first | rw [← Ny205.out] at ho3 | (simp only [Int.reduceToNat] at ho3; rw [← Ny205.out] at ho3)); have n0_ := Aside0.mk (Kd.R_lower (Kd.R_newM (M := fun k_ => (w.heap.size ≤ k_)) ho3 (below_size (by repeat (first | (with_reducible first | exact HB.out | apply below_alloc | apply pw_below_drewN | apply below_drew1 | refine below_set ?_ GE204.out) | exact HB.out))) (fun k_ h_ => h_)) (below_size (by repeat (first | (with_reducible first | exact HB.out | apply below_alloc | apply pw_below_drewN | apply below_drew1 | refine below_set ?_ GE204.out) | exact HB.out)))); have n1_ := Aside0.mk (blk_below (g := gb204) (o := .cells #[.slice none 0 0, .slice none 0 0] 62 (0, 0)) (by (with_reducible repeat (first | refine blk_drewN ?_ _ | refine blk_drew ?_ | refine blk_alloc ?_ _)); exact BK204.out) hb); have n2_ := Aside0.mk (below_step (by repeat (first | (with_reducible first | exact HB.out | apply below_alloc | apply pw_below_drewN | apply below_drew1 | refine below_set ?_ GE204.out) | exact HB.out)) hb); clear BK204; clear HB; have HO207 := n0_; have BK204 := n1_; have HB := n2_; clear n0_ n1_ n2_; clear hb ho3) | ((with_reducible refine gate_dst (N := 8) rfl ?_); refine Kd.R_lit (Kd.int .i64) _ 3 ?hg (N := 8) ?hd (xs := ([0] : List Int)) (inner := [.int .i64 0]) (ok := fun _ => True) (okp := fun _ => True) ?hr ?hp (fun _ hk => hk) trivial (Below.refl _ _) (Nat.le_refl _) (by simp) ?_; (case hd => rfl); (case hg => rfl); (case hr => first | (go_simp; done) | (go_simp; rfl)); (case hp => exact (Reps.one (show Kd.M (Kd.int .i64) _ _ _ 0 [.int .i64 0] from rfl) (Reps.none _ _))); intro v209 w4 ho5 hb hg_ hnew_; clear hg_ hnew_; (first | rw [← Ny208.out] at ho5 | (simp only [Int.reduceToNat] at ho5; rw [← Ny208.out] at ho5)); have n0_ := Aside0.mk (Kd.R_below (by (with_reducible repeat (first | apply Kd.R_alloc | apply Kd.R_drewN | apply Kd.R_drew)); exact HO207.out) hb); have n1_ := Aside0.mk (Kd.R_lower (Kd.R_newM (M := fun k_ => (w.heap.size ≤ k_)) ho5 (below_size (by repeat (first | (with_reducible first | exact HB.out | apply below_alloc | apply pw_below_drewN | apply below_drew1 | refine below_set ?_ GE204.out) | exact HB.out))) (fun k_ h_ => h_)) (below_size (by repeat (first | (with_reducible first | exact HB.out | apply below_alloc | apply pw_below_drewN | apply below_drew1 | refine below_set ?_ GE204.out) | exact HB.out)))); have n2_ := Aside0.mk (blk_below (g := gb204) (o := .cells #[.slice none 0 0, .slice none 0 0] 62 (0, 0)) (by (with_reducible repeat (first | refine blk_drewN ?_ _ | refine blk_drew ?_ | refine blk_alloc ?_ _)); exact BK204.out) hb); have n3_ := Aside0.mk (below_step (by repeat (first | (with_reducible first | exact HB.out | apply below_alloc | apply pw_below_drewN | apply below_drew1 | refine below_set ?_ GE204.out) | exact HB.out)) hb); clear HO207; clear BK204; clear HB; have HO207 := n0_; have HO210 := n1_; have BK204 := n2_; have HB := n3_; clear n0_ n1_ n2_ n3_; clear hb ho5; obtain ⟨Ao6, co6, eo6⟩ := Kd.R_slice HO210.out; subst eo6) | ((with_reducible refine gate_dst (N := 11) rfl ?_); refine Kd.R_lit (Kd.int .i64) _ 3 ?hg (N := 11) ?hd (xs := ([3] : List Int)) (inner := [.int .i64 3]) (ok := fun _ => True) (okp := fun _ => True) ?hr ?hp (fun _ hk => hk) trivial (Below.refl _ _) (Nat.le_refl _) (by simp) ?_; (case hd => rfl); (case hg => rfl); (case hr => first | (go_simp; done) | (go_simp; rfl)); (case hp => exact (Reps.one (show Kd.M (Kd.int .i64) _ _ _ 3 [.int .i64 3] from rfl) (Reps.none _ _))); intro v212 w7 ho8 hb hg_ hnew_; clear hg_ hnew_; (first | rw [← Ny211.out] at ho8 | (simp only [Int.reduceToNat] at ho8; rw [← Ny211.out] at ho8)); have n0_ := Aside0.mk (Kd.R_below (by (with_reducible repeat (first | apply Kd.R_alloc | apply Kd.R_drewN | apply Kd.R_drew)); exact HO207.out) hb); have n1_ := Aside0.mk (Kd.R_elder' (by (with_reducible repeat (first | apply Kd.R_alloc | apply Kd.R_drewN | apply Kd.R_drew)); exact HO210.out) (Kd.R_base ho8) hb); have n2_ := Aside0.mk (Kd.R_lower (Kd.R_new' (Kd.R_newM (M := fun k_ => (w.heap.size ≤ k_)) ho8 (below_size (by repeat (first | (with_reducible first | exact HB.out | apply below_alloc | apply pw_below_drewN | apply below_drew1 | refine below_set ?_ GE204.out) | exact HB.out))) (fun k_ h_ => h_)) (Kd.R_lt (by (with_reducible repeat (first | apply Kd.R_alloc | apply Kd.R_drewN | apply Kd.R_drew)); exact HO210.out))) (below_size (by repeat (first | (with_reducible first | exact HB.out | apply below_alloc | apply pw_below_drewN | apply below_drew1 | refine below_set ?_ GE204.out) | exact HB.out)))); have n3_ := Aside0.mk (blk_below (g := gb204) (o := .cells #[.slice none 0 0, .slice none 0 0] 62 (0, 0)) (by (with_reducible repeat (first | refine blk_drewN ?_ _ | refine blk_drew ?_ | refine blk_alloc ?_ _)); exact BK204.out) hb); have n4_ := Aside0.mk (below_step (by repeat (first | (with_reducible first | exact HB.out | apply below_alloc | apply pw_below_drewN | apply below_drew1 | refine below_set ?_ GE204.out) | exact HB.out)) hb); clear HO207; clear HO210; clear BK204; clear HB; have HO207 := n0_; have HO210 := n1_; have HO213 := n2_; have BK204 := n3_; have HB := n4_; clear n0_ n1_ n2_ n3_ n4_; clear hb ho8; obtain ⟨Ao9, co9, eo9⟩ := Kd.R_slice HO213.out; subst eo9) | ((with_reducible refine gate_dst (N := 14) rfl ?_); refine Kd.N_lit k68 _ 68 ?hg (N' := 14) ?hd (xs := ([(⟨(⟨#[98, 97, 107, 101, 114]⟩ : ByteArray), 1, (-1), ([] : List Int)⟩ : S68), (⟨(⟨#[98, 111, 110, 110, 101, 116, 115]⟩ : ByteArray), (-1), 3, ([] : List Int)⟩ : S68), (⟨(⟨#[99, 111, 110, 102, 101, 99, 116, 105, 111, 110, 101, 114]⟩ : ByteArray), 0, (-1), y208⟩ : S68), (⟨(⟨#[104, 97, 116, 116, 101, 114]⟩ : ByteArray), 3, (-1), ([] : List Int)⟩ : S68), (⟨(⟨#[109, 101, 114, 99, 101, 114]⟩ : ByteArray), 2, (-1), y211⟩ : S68), (⟨(⟨#[109, 105, 108, 108, 105, 110, 101, 114]⟩ : ByteArray), (-1), 1, ([] : List Int)⟩ : S68)] : List (S68))) (inner := [.string (⟨#[98, 97, 107, 101, 114]⟩ : ByteArray), .int .i64 1, .int .i64 (-1), .slice none 0 0, .string (⟨#[98, 111, 110, 110, 101, 116, 115]⟩ : ByteArray), .int .i64 (-1), .int .i64 3, .slice none 0 0, .string (⟨#[99, 111, 110, 102, 101, 99, 116, 105, 111, 110, 101, 114]⟩ : ByteArray), .int .i64 0, .int .i64 (-1), .slice Ao6 y208.length co6, .string (⟨#[104, 97, 116, 116, 101, 114]⟩ : ByteArray), .int .i64 3, .int .i64 (-1), .slice none 0 0, .string (⟨#[109, 101, 114, 99, 101, 114]⟩ : ByteArray), .int .i64 2, .int .i64 (-1), .slice Ao9 y211.length co9, .string (⟨#[109, 105, 108, 108, 105, 110, 101, 114]⟩ : ByteArray), .int .i64 (-1), .int .i64 1, .slice none 0 0]) (ok := (fun k_ => (w.heap.size ≤ k_) ∧ some k_ ≠ (v206 : Value).ownBlock ∧ k_ ≠ gb204)) (okp := (fun k_ => (w.heap.size ≤ k_) ∧ some k_ ≠ (v206 : Value).ownBlock ∧ k_ ≠ gb204)) ?hr ?hp (fun _ hk => hk) ((show ∀ k_, w7.heap.size ≤ k_ → (fun k_ => (w.heap.size ≤ k_) ∧ some k_ ≠ (v206 : Value).ownBlock ∧ k_ ≠ gb204) k_ from fun k_ hk => ⟨(Nat.le_trans (below_size (by repeat (first | (with_reducible first | exact HB.out | apply below_alloc | apply pw_below_drewN | apply below_drew1 | refine below_set ?_ GE204.out) | exact HB.out))) hk), Kd.fresh' (Kd.R_lt (by (with_reducible repeat (first | apply Kd.R_alloc | apply Kd.R_drewN | apply Kd.R_drew)); exact HO207.out)) k_ hk, Kd.freshB (g := gb204) (o := .cells #[.slice none 0 0, .slice none 0 0] 62 (0, 0)) (by (with_reducible repeat (first | refine blk_drewN ?_ _ | refine blk_drew ?_ | refine blk_alloc ?_ _)); exact BK204.out) k_ hk⟩) _ (Nat.le_refl _)) (Below.refl _ _) (Nat.le_refl _) (by simp) ?_; (case hd => rfl); (case hg => rfl); (case hr => first | (go_simp; done) | (go_simp; rfl)); (case hp => exact (Reps.c4 (show Kd.FK k68 _ _ (⟨(⟨#[98, 97, 107, 101, 114]⟩ : ByteArray), 1, (-1), ([] : List Int)⟩ : S68) [.string (⟨#[98, 97, 107, 101, 114]⟩ : ByteArray), .int .i64 1, .int .i64 (-1), .slice none 0 0] from (k68_mkF _ _ (⟨(⟨#[98, 97, 107, 101, 114]⟩ : ByteArray), 1, (-1), ([] : List Int)⟩ : S68) (Nat.le_refl _) (Kd.F_nil _ _ _))) (Reps.c4 (show Kd.FK k68 _ _ (⟨(⟨#[98, 111, 110, 110, 101, 116, 115]⟩ : ByteArray), (-1), 3, ([] : List Int)⟩ : S68) [.string (⟨#[98, 111, 110, 110, 101, 116, 115]⟩ : ByteArray), .int .i64 (-1), .int .i64 3, .slice none 0 0] from (k68_mkF _ _ (⟨(⟨#[98, 111, 110, 110, 101, 116, 115]⟩ : ByteArray), (-1), 3, ([] : List Int)⟩ : S68) (Nat.le_refl _) (Kd.F_nil _ _ _))) (Reps.c4 (show Kd.FK k68 _ _ (⟨(⟨#[99, 111, 110, 102, 101, 99, 116, 105, 111, 110, 101, 114]⟩ : ByteArray), 0, (-1), y208⟩ : S68) [.string (⟨#[99, 111, 110, 102, 101, 99, 116, 105, 111, 110, 101, 114]⟩ : ByteArray), .int .i64 0, .int .i64 (-1), .slice Ao6 y208.length co6] from (k68_mkF _ _ (⟨(⟨#[99, 111, 110, 102, 101, 99, 116, 105, 111, 110, 101, 114]⟩ : ByteArray), 0, (-1), y208⟩ : S68) (Kd.R_reads' (Kd.R_mono (ok' := (fun k_ => (w.heap.size ≤ k_) ∧ some k_ ≠ (v206 : Value).ownBlock ∧ k_ ≠ gb204)) (Kd.R_types (Kd.R_apart' (HO210.out) (Kd.R_typed HO207.out) (by decide)) BK204.out (by decide)) (fun k_ hk => ⟨hk.1.1.1.1, ⟨hk.1.2, hk.2⟩⟩))).2.1 (Kd.R_F (Kd.R_mono (ok' := (fun k_ => (w.heap.size ≤ k_) ∧ some k_ ≠ (v206 : Value).ownBlock ∧ k_ ≠ gb204)) (Kd.R_types (Kd.R_apart' (HO210.out) (Kd.R_typed HO207.out) (by decide)) BK204.out (by decide)) (fun k_ hk => ⟨hk.1.1.1.1, ⟨hk.1.2, hk.2⟩⟩))))) (Reps.c4 (show Kd.FK k68 _ _ (⟨(⟨#[104, 97, 116, 116, 101, 114]⟩ : ByteArray), 3, (-1), ([] : List Int)⟩ : S68) [.string (⟨#[104, 97, 116, 116, 101, 114]⟩ : ByteArray), .int .i64 3, .int .i64 (-1), .slice none 0 0] from (k68_mkF _ _ (⟨(⟨#[104, 97, 116, 116, 101, 114]⟩ : ByteArray), 3, (-1), ([] : List Int)⟩ : S68) (Nat.le_refl _) (Kd.F_nil _ _ _))) (Reps.c4 (show Kd.FK k68 _ _ (⟨(⟨#[109, 101, 114, 99, 101, 114]⟩ : ByteArray), 2, (-1), y211⟩ : S68) [.string (⟨#[109, 101, 114, 99, 101, 114]⟩ : ByteArray), .int .i64 2, .int .i64 (-1), .slice Ao9 y211.length co9] from (k68_mkF _ _ (⟨(⟨#[109, 101, 114, 99, 101, 114]⟩ : ByteArray), 2, (-1), y211⟩ : S68) (Kd.R_reads' (Kd.R_mono (ok' := (fun k_ => (w.heap.size ≤ k_) ∧ some k_ ≠ (v206 : Value).ownBlock ∧ k_ ≠ gb204)) (Kd.R_types (Kd.R_apart' (HO213.out) (Kd.R_typed HO207.out) (by decide)) BK204.out (by decide)) (fun k_ hk => ⟨hk.1.1.1.1, ⟨hk.1.2, hk.2⟩⟩))).2.1 (Kd.R_F (Kd.R_mono (ok' := (fun k_ => (w.heap.size ≤ k_) ∧ some k_ ≠ (v206 : Value).ownBlock ∧ k_ ≠ gb204)) (Kd.R_types (Kd.R_apart' (HO213.out) (Kd.R_typed HO207.out) (by decide)) BK204.out (by decide)) (fun k_ hk => ⟨hk.1.1.1.1, ⟨hk.1.2, hk.2⟩⟩))))) (Reps.c4 (show Kd.FK k68 _ _ (⟨(⟨#[109, 105, 108, 108, 105, 110, 101, 114]⟩ : ByteArray), (-1), 1, ([] : List Int)⟩ : S68) [.string (⟨#[109, 105, 108, 108, 105, 110, 101, 114]⟩ : ByteArray), .int .i64 (-1), .int .i64 1, .slice none 0 0] from (k68_mkF _ _ (⟨(⟨#[109, 105, 108, 108, 105, 110, 101, 114]⟩ : ByteArray), (-1), 1, ([] : List Int)⟩ : S68) (Nat.le_refl _) (Kd.F_nil _ _ _))) (Reps.none _ _)))))))); intro v215 w10 ho11 hb hg_ hnew_; clear hg_ hnew_; (first | rw [← Ny214.out] at ho11 | (simp only [Int.reduceToNat] at ho11; rw [← Ny214.out] at ho11)); have n0_ := Aside0.mk (Kd.R_below (by (with_reducible repeat (first | apply Kd.R_alloc | apply Kd.R_drewN | apply Kd.R_drew)); exact HO207.out) hb); have n1_ := Aside0.mk (Kd.N_lower ho11 (below_size (by repeat (first | (with_reducible first | exact HB.out | apply below_alloc | apply pw_below_drewN | apply below_drew1 | refine below_set ?_ GE204.out) | exact HB.out)))); have n2_ := Aside0.mk (blk_below (g := gb204) (o := .cells #[.slice none 0 0, .slice none 0 0] 62 (0, 0)) (by (with_reducible repeat (first | refine blk_drewN ?_ _ | refine blk_drew ?_ | refine blk_alloc ?_ _)); exact BK204.out) hb); have n3_ := Aside0.mk (below_step (by repeat (first | (with_reducible first | exact HB.out | apply below_alloc | apply pw_below_drewN | apply below_drew1 | refine below_set ?_ GE204.out) | exact HB.out)) hb); clear HO207; clear BK204; clear HB; clear HO210; clear HO213; have HO207 := n0_; have HO216 := n1_; have BK204 := n2_; have HB := n3_; clear n0_ n1_ n2_ n3_; clear hb ho11; obtain ⟨Ao12, co12, eo12⟩ := Kd.N_slice HO216.out; subst eo12; obtain ⟨Ao13, co13, eo13⟩ := Kd.R_slice HO207.out; subst eo13; have hcz14_0 : w10.cell? ⟨gb204, 0, none⟩ = some (.slice none 0 0) := (blk_cell BK204.out 0).trans rfl; have hcz14_1 : w10.cell? ⟨gb204, 1, none⟩ = some (.slice none 0 0) := (blk_cell BK204.out 1).trans rfl; have hfz14_0 := blk_frozen BK204.out 0; have hfz14_1 := blk_frozen BK204.out 1))
 refine bodyPost_ret (results_cell_row rfl _ _ gb204 62 #[.slice Ao13 y205.length co13, .slice Ao12 y214.length co12] (0, 0) _ rfl (by (with_reducible repeat (first | refine blk_drewN ?_ _ | refine blk_drew ?_ | refine blk_alloc ?_ _)); refine blk_put (cs := #[.slice Ao13 y205.length co13, .slice none 0 0]) ?_ 1 _ rfl; (with_reducible repeat (first | refine blk_drewN ?_ _ | refine blk_drew ?_ | refine blk_alloc ?_ _)); refine blk_put (cs := #[.slice none 0 0, .slice none 0 0]) ?_ 0 _ rfl; (with_reducible repeat (first | refine blk_drewN ?_ _ | refine blk_drew ?_ | refine blk_alloc ?_ _)); exact BK204.out) Try.underlying62 rfl (by kernel_rfl)) rfl ?_
 exact ⟨_, _, by first | rfl | (simp [errW_none, errW_some] <;> rfl) | (simp [*, errW_none, errW_some] <;> rfl), by (with_reducible repeat (first | apply Kd.R_alloc | apply Kd.R_drewN | apply Kd.R_drew)); exact Kd.R_mono (Kd.R_far (p := ⟨gb204, 1, none⟩) (Kd.R_far (p := ⟨gb204, 0, none⟩) (Kd.R_types HO207.out BK204.out (by decide)) (fun _ hk => hk.2) (.slice Ao13 y205.length co13)) (fun _ hk => hk.2) (.slice Ao12 y214.length co12)) (fun _ hk => hk.1.1), by (with_reducible repeat (first | apply Kd.N_alloc | apply Kd.N_drewN | apply Kd.N_drew)); exact Kd.N_mono (Kd.N_far (p := ⟨gb204, 1, none⟩) (Kd.N_far (p := ⟨gb204, 0, none⟩) (Kd.N_mono HO216.out (fun k_ hk => (⟨hk, hk.2.2⟩ : _ ∧ k_ ≠ gb204))) (fun _ hk => hk.2) (.slice Ao13 y205.length co13)) (fun _ hk => hk.2) (.slice Ao12 y214.length co12)) (fun _ hk => ⟨hk.1.1, hk.1.2.1⟩), by repeat (first | (with_reducible first | exact HB.out | apply below_alloc | apply pw_below_drewN | apply below_drew1 | refine below_set ?_ GE204.out) | exact HB.out)⟩
def wayzgooselaw09_rates.f  : Option (List Int) := some (([5, 9, 4, 7, 6, 9] : List Int))
set_option maxHeartbeats 8000000 in
set_option maxRecDepth 100000 in
theorem wayzgooselaw09_rates.calls  (r : List Int) (w : World) (h : wayzgooselaw09_rates.f  = some r) :
  Calls Try.prog 67 #[] w fun e w' => ∃ v0_ : Value, e = .returned (v0_) ∧ Kd.R (Kd.int .i64) 3 w' w.heap.size (fun _ => True) v0_ r ∧ Below w.heap.size w w' := by
 have HB := Aside0.mk (Below.refl w.heap.size w)
 have H : (some (([5, 9, 4, 7, 6, 9] : List Int))) = some r := h
 clear h
 obtain ⟨y217, hy217⟩ : ∃ y_ : List Int, y_ = (([5, 9, 4, 7, 6, 9] : List Int)) := ⟨_, rfl⟩
 replace H : (some y217) = some r := by first | (rw [hy217]; with_reducible exact H) | (have H2_ := (Option.bind_some _ _).symm.trans H; rw [hy217]; with_reducible exact H2_) | (have H2_ := (Option.bind_some _ _).symm.trans H; with_reducible exact H2_) | with_reducible exact H | (rw [hy217]; exact H) | exact H
 have Ny217 := Aside0.mk hy217
 clear hy217
 obtain rfl := Option.some.inj H
 go_enter Try.func67, Try.ntmps67
 go_wp2_with (first | ((with_reducible refine gate_dst (N := 1) rfl ?_); refine Kd.R_lit (Kd.int .i64) _ 3 ?hg (N := 1) ?hd (xs := ([5, 9, 4, 7, 6, 9] : List Int)) (inner := [.int .i64 5, .int .i64 9, .int .i64 4, .int .i64 7, .int .i64 6, .int .i64 9]) (ok := fun _ => True) (okp := fun _ => True) ?hr ?hp (fun _ hk => hk) trivial (Below.refl _ _) (Nat.le_refl _) (by simp) ?_; (case hd => rfl); (case hg => rfl); (case hr => first | (go_simp; done) | (go_simp; rfl)); (case hp => exact (Reps.one (show Kd.M (Kd.int .i64) _ _ _ 5 [.int .i64 5] from rfl) (Reps.one (show Kd.M (Kd.int .i64) _ _ _ 9 [.int .i64 9] from rfl) (Reps.one (show Kd.M (Kd.int .i64) _ _ _ 4 [.int .i64 4] from rfl) (Reps.one (show Kd.M (Kd.int .i64) _ _ _ 7 [.int .i64 7] from rfl) (Reps.one (show Kd.M (Kd.int .i64) _ _ _ 6 [.int .i64 6] from rfl) (Reps.one (show Kd.M (Kd.int .i64) _ _ _ 9 [.int .i64 9] from rfl) (Reps.none _ _)))))))); intro v218 w1 ho2 hb hg_ hnew_; clear hg_ hnew_; (first | rw [← Ny217.out] at ho2 | (simp only [Int.reduceToNat] at ho2; rw [← Ny217.out] at ho2)); have n0_ := Aside0.mk (Kd.R_lower ho2 (below_size (by repeat (first | (with_reducible first | exact HB.out | apply below_alloc | apply pw_below_drewN | apply below_drew1) | exact HB.out)))); have n1_ := Aside0.mk (below_step (by repeat (first | (with_reducible first | exact HB.out | apply below_alloc | apply pw_below_drewN | apply below_drew1) | exact HB.out)) hb); clear HB; have HO219 := n0_; have HB := n1_; clear n0_ n1_; clear hb ho2))
 go_ret
 exact ⟨_, by first | rfl | (simp [errW_none, errW_some] <;> rfl) | (simp [*, errW_none, errW_some] <;> rfl), by (with_reducible repeat (first | apply Kd.R_alloc | apply Kd.R_drewN | apply Kd.R_drew)); exact HO219.out, by repeat (first | (with_reducible first | exact HB.out | apply below_alloc | apply pw_below_drewN | apply below_drew1) | exact HB.out)⟩
end Go.Proofs.Ytfgedbakbljgfaa.PBoldSheets
namespace Go.Ov
open Go.Conc Go.Proofs Go.RowKit Go.Maps Go.Proofs.YtfgedbakbljgfaaW.PrintWords Go.Proofs.YtfgedbakbljgfaaW.PrintLast Go.Proofs.YtfgedbakbljgfaaW.PrintMore Go.Proofs.Ytfgedbakbljgfaa.PBoldSheets
def wordB (s : ByteArray) : Bool := decide (0 < s.size) && decide (s.size ≤ 12) && !(s.toList == [99, 108, 97, 115, 115]) && !(s.toList == [102, 105, 110, 105, 115]) && decide (∀ i (h : i < s.size), 97 ≤ (s[i]'h).toNat ∧ (s[i]'h).toNat ≤ 122)
theorem wordB_ok {s : ByteArray} (h : wordB s = true) : Word s := by
 simp only [wordB, Bool.and_eq_true, decide_eq_true_eq, Bool.not_eq_true'] at h
 exact ⟨h.1.1.1.1, h.1.1.1.2, h.1.1.2, h.1.2, h.2⟩
def classB (l : List S122) (i : Nat) : Bool := wordB (rd_T122 l i).f0 && ((List.range i).all fun j => !sameW (rd_T122 l j).f0 (rd_T122 l i).f0) && decide (-1 ≤ (rd_T122 l i).f1) && decide ((rd_T122 l i).f1 < i)
theorem classB_ok {l : List S122} {i : Nat} (h : classB l i = true) : ClassOk l i := by
 simp only [classB, Bool.and_eq_true, decide_eq_true_eq, List.all_eq_true, List.mem_range, Bool.not_eq_true'] at h
 exact ⟨wordB_ok h.1.1.1, h.1.1.2, h.1.2, h.2⟩
def alsoB (nh i : Nat) (l : List Int) : Bool := (l.all fun n => decide (0 ≤ n ∧ n ≤ (nh : Int) - 1 ∧ n ≠ i)) && (List.range l.length).all fun k => match l[k + 1]?, l[k]? with | some n, some m => decide (m < n) | _, _ => true
theorem alsoB_ok {nh i : Nat} {l : List Int} (h : alsoB nh i l = true) : AlsoOk nh i l := by
 simp only [alsoB, Bool.and_eq_true, decide_eq_true_eq, List.all_eq_true, List.mem_range] at h
 refine ⟨fun k n hk => h.1 n (List.mem_of_getElem? hk), fun k n m h1 h2 => ?_⟩
 have := h.2 k (List.getElem?_eq_some_iff.1 h2).1
 rw [h1, h2] at this
 simpa using this
def headB (nc nh : Nat) (l : List S68) (i : Nat) : Bool :=
 wordB (rd_T68 l i).f0 && ((List.range i).all fun j => !sameW (rd_T68 l j).f0 (rd_T68 l i).f0) && (match i with | 0 => true | k + 1 => !Op.bytesLess (rd_T68 l ((k + 1 : Nat) : Int)).f0.toList (rd_T68 l (k : Int)).f0.toList) &&
  decide (-1 ≤ (rd_T68 l i).f1 ∧ (rd_T68 l i).f1 ≤ (nc : Int) - 1) && decide (-1 ≤ (rd_T68 l i).f2 ∧ (rd_T68 l i).f2 ≤ (nh : Int) - 1) && decide ((rd_T68 l i).f2 ≠ i) && alsoB nh i (rd_T68 l i).f3 &&
  !((decide ((rd_T68 l i).f2 ≠ -1) && (decide ((rd_T68 l i).f1 ≠ -1) || decide (0 < (rd_T68 l i).f3.length))) || (decide ((rd_T68 l i).f2 = -1) && decide ((rd_T68 l i).f1 = -1) && decide ((rd_T68 l i).f3.length = 0)))
theorem headB_ok {nc nh : Nat} {l : List S68} {i : Nat} (h : headB nc nh l i = true) : HeadOk nc nh l i := by
 simp only [headB, Bool.and_eq_true, Bool.not_eq_true'] at h
 obtain ⟨⟨⟨⟨⟨⟨⟨h1, h2⟩, h3⟩, h4⟩, h5⟩, h6⟩, h7⟩, h8⟩ := h
 refine ⟨wordB_ok h1, fun j hj => ?_, fun k hk => ?_, of_decide_eq_true h4, of_decide_eq_true h5, of_decide_eq_true h6, alsoB_ok h7, h8⟩
 ·have := List.all_eq_true.1 h2 j (List.mem_range.2 hj)
  simpa using this
 ·subst hk
  simpa using h3
abbrev shopC : List S122 := [(⟨(⟨#[102, 111, 111, 100]⟩ : ByteArray), (-1)⟩ : S122), (⟨(⟨#[98, 114, 101, 97, 100]⟩ : ByteArray), 0⟩ : S122), (⟨(⟨#[99, 108, 111, 116, 104]⟩ : ByteArray), (-1)⟩ : S122), (⟨(⟨#[104, 97, 116, 115]⟩ : ByteArray), 2⟩ : S122)]
theorem shopC_ok : ((List.range 4).all (classB shopC)) = true := by kernel_rfl
theorem bills_counter : billsOf 10 25 5 40 10 2 [0, 0, 3] [⟨0, 1, 1⟩, ⟨1, 2, 2⟩, ⟨2, 3, 3⟩] = [9, 27, 120] := by kernel_rfl
theorem bills_some : billsOf 10 25 5 40 10 2 [0, 0, 3] [⟨0, 1, 1⟩, ⟨2, 3, 3⟩] = [10, 0, 120] := by kernel_rfl
theorem bills_more : billsOf 10 25 5 40 10 2 [0, 0, 3] ([⟨0, 1, 1⟩, ⟨2, 3, 3⟩] ++ [⟨1, 1, 1⟩]) = [9, 9, 120] := by kernel_rfl
theorem check_counter : saleErr 10 25 5 40 10 2 [0, 0, 3] [⟨0, 1, 1⟩, ⟨1, 2, 2⟩, ⟨2, 3, 3⟩] = 0 := by kernel_rfl
theorem check_some : saleErr 10 25 5 40 10 2 [0, 0, 3] [⟨0, 1, 1⟩, ⟨2, 3, 3⟩] = 0 := by kernel_rfl
theorem adErr_some : adErr 3 ⟨1, 1, 1⟩ = 0 := by kernel_rfl
theorem sum_some : bold_sum.f 100 [10, 0, 120] = some 130 := by kernel_rfl
theorem sum_more : bold_sum.f 100 [9, 9, 120] = some 138 := by kernel_rfl
theorem cards_err : bold_cardsError.f 100 [⟨2, 30⟩, ⟨3, 50⟩, ⟨4, 60⟩] 5 = some 0 := by kernel_rfl
theorem cards_best : bestOf ordFill (handsOf [⟨2, 30⟩, ⟨3, 50⟩, ⟨4, 60⟩] 5 (2 ^ 3)) = some ⟨[0, 1], 5, 80⟩ := by kernel_rfl
abbrev shopH : List S68 := [(⟨(⟨#[98, 97, 107, 101, 114]⟩ : ByteArray), 1, (-1), ([] : List Int)⟩ : S68), (⟨(⟨#[98, 111, 110, 110, 101, 116, 115]⟩ : ByteArray), (-1), 3, ([] : List Int)⟩ : S68), (⟨(⟨#[99, 111, 110, 102, 101, 99, 116, 105, 111, 110, 101, 114]⟩ : ByteArray), 0, (-1), (([0] : List Int))⟩ : S68), (⟨(⟨#[104, 97, 116, 116, 101, 114]⟩ : ByteArray), 3, (-1), ([] : List Int)⟩ : S68), (⟨(⟨#[109, 101, 114, 99, 101, 114]⟩ : ByteArray), 2, (-1), (([3] : List Int))⟩ : S68), (⟨(⟨#[109, 105, 108, 108, 105, 110, 101, 114]⟩ : ByteArray), (-1), 1, ([] : List Int)⟩ : S68)]
theorem shopH_ok : ((List.range 6).all (headB 4 6 shopH)) = true := by kernel_rfl
theorem shops_f : wayzgooselaw09_shops.f = some (shopC, shopH) := rfl
theorem shops_best : bestOf ordFound (foundHands shopH [5, 9, 4, 7, 6, 9] 6 1 [1, 2] (2 ^ 6)) = some ⟨[2, 3], 0, 11⟩ := by kernel_rfl
noncomputable def c22_0 : Array Oper := (fun {c} (_ : rg Try.f22 0 = some c) => c) rfl
noncomputable def c22_1 : Array Oper := (fun {c} (_ : rg Try.f22 1 = some c) => c) rfl
noncomputable def c22_2 : Array Oper := (fun {c} (_ : rg Try.f22 2 = some c) => c) rfl
noncomputable def c22_3 : Array Oper := (fun {c} (_ : rg Try.f22 3 = some c) => c) rfl
noncomputable def c22_4 : Array Oper := (fun {c} (_ : rg Try.f22 4 = some c) => c) rfl
noncomputable def c22_5 : Array Oper := (fun {c} (_ : rg Try.f22 5 = some c) => c) rfl
noncomputable def c22_6 : Array Oper := (fun {c} (_ : rg Try.f22 6 = some c) => c) rfl
noncomputable def b22 : Code := (.seq (.region 0 c22_0 false) (.seq (.region 1 c22_1 false) (.seq (.region 2 c22_2 false) (.seq (.region 3 c22_3 false) (.seq (.region 4 c22_4 false) (.seq (.region 5 c22_5 false) (.seq (.region 6 c22_6 false) Code.ret)))))))
theorem body22 : Try.f22.body = some b22 := by kernel_rfl
abbrev cd3 : List S107 := [⟨2, 30⟩, ⟨3, 50⟩, ⟨4, 60⟩]
theorem calls65 (w : World) : Calls Try.prog 65 #[] w fun e w' => ∃ v, e = .returned v ∧ ∃ A c, v = .slice A 3 c ∧ 3 ≤ c ∧ Kd.C k107 w' A 3 cd3 ∧ Below w.heap.size w w' := by
 refine Calls.mono (wayzgooselaw09_cards.calls cd3 w rfl) ?_
 rintro e W ⟨v, rfl, h6, hb⟩
 obtain ⟨A, c, rfl, hc1, hr1⟩ := Kd.R_reads h6
 exact ⟨_, rfl, A, c, rfl, hc1, hr1, hb⟩
theorem calls67 (w : World) : Calls Try.prog 67 #[] w fun e w' => ∃ v, e = .returned v ∧ ∃ A c, v = .slice A 6 c ∧ Kd.C (Kd.int .i64) w' A 6 [5, 9, 4, 7, 6, 9] ∧ Below w.heap.size w w' := by
 refine Calls.mono (wayzgooselaw09_rates.calls [5, 9, 4, 7, 6, 9] w rfl) ?_
 rintro e W ⟨v, rfl, h6, hb⟩
 obtain ⟨A, c, rfl, hc1, hr1⟩ := Kd.R_reads h6
 exact ⟨_, rfl, A, c, rfl, hr1, hb⟩
theorem calls66 (w : World) : Calls Try.prog 66 #[] w fun e w' => ∃ v, e = .returned v ∧ ∃ Ac cc Ah ch, v = .agg (tradesV Ac 4 cc Ah 6 ch) ∧ Trades w' Ac 4 cc Ah 6 ch shopC shopH ∧ Below w.heap.size w w' := by
 refine Calls.mono (wayzgooselaw09_shops.calls shopC shopH w shops_f) ?_
 rintro e W ⟨v0, v1, rfl, h6, h7, hb⟩
 obtain ⟨Ac, cc, rfl, hc1, hr1⟩ := Kd.R_reads h6
 obtain ⟨Ah, ch, rfl, hc2, hr2⟩ := Kd.N_reads h7
 refine ⟨_, rfl, Ac, cc, Ah, ch, rfl, ⟨hr1, hr2, hc1, hc2, by omega, by omega, fun i hi => ?_, fun i hi => ?_⟩, hb⟩
 ·exact classB_ok (List.all_eq_true.1 shopC_ok i (List.mem_range.2 hi))
 ·exact headB_ok (List.all_eq_true.1 shopH_ok i (List.mem_range.2 hi))
theorem found22 {w : World} {Ac Ah : Option Addr} {cc ch : Nat} (hT : Trades w Ac 4 cc Ah 6 ch shopC shopH) (Ap : Option Addr) (cp : Nat) (hpr : Kd.C (Kd.int .i64) w Ap 6 [5, 9, 4, 7, 6, 9]) (Aw : Option Addr) (cw : Nat) (hw : Kd.C (Kd.int .i64) w Aw 2 [1, 2]) :
  Calls Try.prog 40 #[.agg (tradesV Ac 4 cc Ah 6 ch), .slice Ap 6 cp, .slice Aw 2 cw, .int .i64 1] w fun e w' => ∃ v, e = .returned v ∧ Below w.heap.size w w' ∧ ∃ g, v = .tuple #[.slice (some ⟨g, 0, none⟩) 2 2, .int .i64 11, .int .i64 0] ∧ w'.heap[g]? = some (.cells (nums .i64 [2, 3]).toArray 3 (0, 0)) :=
 calls40 hT Ap cp _ hpr (by decide) Aw 2 cw _ hw (by decide) 1 (by decide) _ shops_best
theorem fill22 {w : World} {A : Option Addr} {c : Nat} (hc : 3 ≤ c) (hr : Kd.C k107 w A 3 cd3) :
  Calls Try.prog 31 #[.slice A 3 c, .int .i64 5] w fun e w' => ∃ v, e = .returned v ∧ Below w.heap.size w w' ∧ ∃ g, v = .tuple #[.slice (some ⟨g, 0, none⟩) 2 2, .int .i64 80, .int .i64 0] ∧ w'.heap[g]? = some (.cells (nums .i64 [0, 1]).toArray 3 (0, 0)) := by
 refine Calls.mono (calls31 (h := ⟨[0, 1], 5, 80⟩) hr hc cards_err fun _ => ⟨⟨hr, rfl, by omega, by decide⟩, by decide, cards_best⟩) ?_
 rintro e W ⟨v, rfl, hb, v1, rfl, h⟩
 rw [if_pos rfl] at h
 obtain ⟨g, rfl, hg⟩ := h
 exact ⟨_, rfl, hb, g, rfl, hg⟩
theorem sheets22 (w : World) : Calls Try.prog 20 #[.int .i64 100, .int .i64 12, .int .i64 4] w fun e w' => e = .returned (.tuple #[.int .i64 3, .int .i64 44, .int .i64 0]) ∧ Below w.heap.size w w' :=
 (bold_Sheets.calls 100 12 4 3 44 0 w (by kernel_rfl)).mono fun e w' h => ⟨h.1, h.2.below⟩
theorem eq35 {w : World} {g : Nat} {l : List Int} (hg : w.heap[g]? = some (.cells (nums .i64 l).toArray 3 (0, 0))) (hl : l.length ≤ 1000) (k : Nat) (h : wayzgoosekit_EqInts.f k l l = some true) (W : World) (hb : Below w.heap.size w W) :
  Calls Try.prog 35 #[.slice (some ⟨g, 0, none⟩) l.length l.length, .slice (some ⟨W.heap.size, 0, none⟩) l.length l.length] (W.alloc (.cells (nums .i64 l).toArray 3)) fun e w' => e = .returned (.bool true) ∧ Below w.heap.size w w' := by
 have hb2 := hb.alloc hb.size (.cells (nums .i64 l).toArray 3)
 refine (wayzgoosekit_EqInts.calls k _ _ l _ _ l true _ (kd_block ((hb2.block g (blk_lt hg)).trans hg) hl) (Nat.le_refl _) (kd_block (heap_alloc_new _ _) hl) (Nat.le_refl _) h).mono fun e w' h => ⟨h.1, hb2.trans (h.2.below.mono hb2.size)⟩
noncomputable def b22_3 : Code := (.seq (.region 3 c22_3 false) (.seq (.region 4 c22_4 false) (.seq (.region 5 c22_5 false) (.seq (.region 6 c22_6 false) Code.ret))))
noncomputable def b22_2 : Code := (.seq (.region 2 c22_2 false) b22_3)
theorem lay_tmps (n : Nat) (t : Array Value) (h : t.size = n) : t = ((List.range n).map fun i => t.getD i undef).toArray := by
 apply Array.ext
 ·simp [h]
 intro i h1 h2
 simp [Array.getD_eq_getD_getElem?, h1]
theorem lay22 (t : Array Value) (h : t.size = 97) : t = (fun f : Nat → Value => #[f 0, f 1, f 2, f 3, f 4, f 5, f 6, f 7, f 8, f 9, f 10, f 11, f 12, f 13, f 14, f 15, f 16, f 17, f 18, f 19, f 20, f 21, f 22, f 23, f 24, f 25, f 26, f 27, f 28, f 29, f 30, f 31, f 32, f 33, f 34, f 35, f 36, f 37, f 38, f 39, f 40, f 41, f 42, f 43, f 44, f 45, f 46, f 47, f 48, f 49, f 50, f 51, f 52, f 53, f 54, f 55, f 56, f 57, f 58, f 59, f 60, f 61, f 62, f 63, f 64, f 65, f 66, f 67, f 68, f 69, f 70, f 71, f 72, f 73, f 74, f 75, f 76, f 77, f 78, f 79, f 80, f 81, f 82, f 83, f 84, f 85, f 86, f 87, f 88, f 89, f 90, f 91, f 92, f 93, f 94, f 95, f 96]) (fun i => t.getD i undef) := (lay_tmps 97 t h).trans rfl
section
variable {R : Row} {w0 : World}
set_option maxHeartbeats 400000 in
theorem chain22 {cs : List Frame} {w : World} (g1 g5 g8 : Nat) (hf : Fr w0 w) (E1 : Hid (∀ (W : World) (v1 v2 : Value) (ww : World), v1 = .slice (some ⟨g1, 0, none⟩) 3 3 → v2 = .slice (some ⟨W.heap.size, 0, none⟩) 3 3 → ww = W.alloc (.cells #[.int .i64 9, .int .i64 27, .int .i64 120] 3) → Below w.heap.size w W → Calls Try.prog 35 #[v1, v2] ww fun e w' => e = .returned (.bool true) ∧ Below w.heap.size w w')) (E2 : Hid (∀ (W : World) (v1 v2 : Value) (ww : World), v1 = .slice (some ⟨g5, 0, none⟩) 2 2 → v2 = .slice (some ⟨W.heap.size, 0, none⟩) 2 2 → ww = W.alloc (.cells #[.int .i64 0, .int .i64 1] 3) → Below w.heap.size w W → Calls Try.prog 35 #[v1, v2] ww fun e w' => e = .returned (.bool true) ∧ Below w.heap.size w w')) (E3 : Hid (∀ (W : World) (v1 v2 : Value) (ww : World), v1 = .slice (some ⟨g8, 0, none⟩) 2 2 → v2 = .slice (some ⟨W.heap.size, 0, none⟩) 2 2 → ww = W.alloc (.cells #[.int .i64 2, .int .i64 3] 3) → Below w.heap.size w W → Calls Try.prog 35 #[v1, v2] ww fun e w' => e = .returned (.bool true) ∧ Below w.heap.size w w')) t0 jO xY qU jJ yB qE xU jD jA jE xN xL qB qF qV jY qJ jF qD jI jK xC xR qL xB jP yD qI xQ xA jG yE jS jV xV jU xW qP qM xF qK jM xT yA jQ jX xD xO jT qA xE qT jZ xM xI xS jL xP xH qY qC qW yC qG qQ xZ jH jR qZ qS xK qX qN jW jB xG xJ jC qH jN qR qO xX :
  To Try.prog cs (Out Try.prog 22 fun v w => v = .bool true ∧ Fr w0 w) ((baseN 22).at ({ tmps := #[t0, .slice (some ⟨g1, 0, none⟩) 3 3, .int .i64 0, .int .i64 8, .int .i64 0, .slice (some ⟨g5, 0, none⟩) 2 2, .int .i64 80, .int .i64 0, .slice (some ⟨g8, 0, none⟩) 2 2, .int .i64 11, .int .i64 0, .int .i64 3, .int .i64 44, .int .i64 0, jO, xY, qU, jJ, yB, qE, xU, jD, jA, jE, xN, xL, qB, qF, qV, jY, qJ, jF, qD, jI, jK, xC, xR, qL, xB, jP, yD, qI, xQ, xA, jG, yE, jS, jV, xV, jU, xW, qP, qM, xF, qK, jM, xT, yA, jQ, jX, xD, xO, jT, qA, xE, qT, jZ, xM, xI, xS, jL, xP, xH, qY, qC, qW, yC, qG, qQ, xZ, jH, jR, qZ, qS, xK, qX, qN, jW, jB, xG, xJ, jC, qH, jN, qR, qO, xX], defers := [] } : Act) [.code (.seq (.region 6 c22_6 false) Code.ret)]) w := by
 have hb0 : Below w.heap.size w w := Below.refl _ _
 refine To.seq (To.code fun Kc hKc => ?_)
 unfold c22_6
 go_wp2_with (go_at_call 35; first | (refine Calls.mono (E1.out _ _ _ _ rfl rfl rfl (by assumption)) ?_; rintro e W7 ⟨rfl, hb7⟩; dsimp only) | (refine Calls.mono (E2.out _ _ _ _ rfl rfl rfl (by assumption)) ?_; rintro e W8 ⟨rfl, hb8⟩; dsimp only) | (refine Calls.mono (E3.out _ _ _ _ rfl rfl rfl (by assumption)) ?_; rintro e W9 ⟨rfl, hb9⟩; dsimp only))
 exact hKc _ _ (To.ret Try.func22 rfl (results_tmp rfl _ _ _) ⟨rfl, hf.trans (Fr.of_below hb9)⟩)
set_option maxHeartbeats 4000000 in
theorem last22 {cs : List Frame} {w : World} (g1 : Nat) (hg1 : w.heap[g1]? = some (.cells (nums .i64 [9, 27, 120]).toArray 3 (0, 0))) (hf : Fr w0 w) t0 t5 t6 t7 t8 t9 yI yF yG yH jO xY qU jJ yB qE xU jD jA jE xN xL qB qF qV jY qJ jF qD jI jK xC xR qL xB jP yD qI xQ xA jG yE jS jV xV jU xW qP qM xF qK jM xT yA jQ jX xD xO jT qA xE qT jZ xM xI xS jL xP xH qY qC qW yC qG qQ xZ jH jR qZ qS xK qX qN jW jB xG xJ jC qH jN qR qO xX :
  To Try.prog cs (Out Try.prog 22 fun v w => v = .bool true ∧ Fr w0 w) ((baseN 22).at ({ tmps := #[t0, .slice (some ⟨g1, 0, none⟩) 3 3, .int .i64 0, .int .i64 8, .int .i64 0, t5, t6, t7, t8, t9, yI, yF, yG, yH, jO, xY, qU, jJ, yB, qE, xU, jD, jA, jE, xN, xL, qB, qF, qV, jY, qJ, jF, qD, jI, jK, xC, xR, qL, xB, jP, yD, qI, xQ, xA, jG, yE, jS, jV, xV, jU, xW, qP, qM, xF, qK, jM, xT, yA, jQ, jX, xD, xO, jT, qA, xE, qT, jZ, xM, xI, xS, jL, xP, xH, qY, qC, qW, yC, qG, qQ, xZ, jH, jR, qZ, qS, xK, qX, qN, jW, jB, xG, xJ, jC, qH, jN, qR, qO, xX], defers := [] } : Act) [.code b22_3]) w := by
 unfold b22_3
 refine To.seq (To.code fun Kc hKc => ?_)
 unfold c22_3
 go_wp2_with (first | (go_at_call 65; refine Calls.mono (calls65 _) ?_; rintro e W1 ⟨_, rfl, A, c, rfl, hc, hr, hb1⟩; dsimp only) | (go_at_call 31; refine Calls.mono (fill22 (by assumption) (by assumption)) ?_; rintro e W2 ⟨_, rfl, hb2, g5, rfl, hg5⟩; dsimp only))
 have hB2 := hb1.trans (hb2.mono hb1.size)
 refine hKc _ _ (To.seq (To.code fun Kc hKc => ?_))
 clear hb1 hb2
 unfold c22_4
 go_wp2_with (first | (go_at_call 66; refine Calls.mono (calls66 _) ?_; rintro e W3 ⟨_, rfl, Ac, cc, Ah, ch, rfl, hT, hb3⟩; dsimp only) | (go_at_call 67; refine Calls.mono (calls67 _) ?_; rintro e W4 ⟨_, rfl, Ap, cp, rfl, hpr, hb4⟩; have hba : Below W4.heap.size W4 (W4.alloc (.cells #[.int .i64 1, .int .i64 2] 3)) := (Below.refl _ _).alloc (Nat.le_refl _) _; have C40 : Hid _ := found22 ((hT.below hb4).below hba) Ap cp (Kd.C_below hpr hba) (some ⟨W4.heap.size, 0, none⟩) 2 (kd_block (l := [1, 2]) (heap_alloc_new _ _) (by decide)); dsimp only) | (go_at_call 40; refine Calls.mono C40.out ?_; rintro e W5 ⟨_, rfl, hb5, g8, rfl, hg8⟩; dsimp only))
 have hB4 := hB2.trans ((hb3.trans (hb4.mono hb3.size)).mono hB2.size)
 have hB5 := hB4.trans ((hba.trans (hb5.mono hba.size)).mono hB4.size)
 have hg5' := (((hb3.trans (hb4.mono hb3.size)).trans ((hba.trans (hb5.mono hba.size)).mono (hb3.trans (hb4.mono hb3.size)).size)).block g5 (blk_lt hg5)).trans hg5
 refine hKc _ _ (To.seq (To.code fun Kc hKc => ?_))
 clear hb3 hb4 hb5 hba C40 hT hpr hB4 hB2
 unfold c22_5
 go_wp2_with (go_at_call 20; refine Calls.mono (sheets22 _) ?_; rintro e W6 ⟨rfl, hb6⟩; dsimp only)
 have hB6 := hB5.trans (hb6.mono hB5.size)
 have hg1' := (hB6.block g1 (blk_lt hg1)).trans hg1
 have hg5'' := (hb6.block g5 (blk_lt hg5')).trans hg5'
 have hg8' := (hb6.block g8 (blk_lt hg8)).trans hg8
 have E1 : Hid (∀ (W : World) (v1 v2 : Value) (ww : World), v1 = .slice (some ⟨g1, 0, none⟩) 3 3 → v2 = .slice (some ⟨W.heap.size, 0, none⟩) 3 3 → ww = W.alloc (.cells #[.int .i64 9, .int .i64 27, .int .i64 120] 3) → Below W6.heap.size W6 W → Calls Try.prog 35 #[v1, v2] ww fun e w' => e = .returned (.bool true) ∧ Below W6.heap.size W6 w') := fun W v1 v2 ww e1 e2 e3 hb => by subst e1 e2 e3; exact eq35 (l := [9, 27, 120]) hg1' (by decide) 100 (by kernel_rfl) W hb
 have E2 : Hid (∀ (W : World) (v1 v2 : Value) (ww : World), v1 = .slice (some ⟨g5, 0, none⟩) 2 2 → v2 = .slice (some ⟨W.heap.size, 0, none⟩) 2 2 → ww = W.alloc (.cells #[.int .i64 0, .int .i64 1] 3) → Below W6.heap.size W6 W → Calls Try.prog 35 #[v1, v2] ww fun e w' => e = .returned (.bool true) ∧ Below W6.heap.size W6 w') := fun W v1 v2 ww e1 e2 e3 hb => by subst e1 e2 e3; exact eq35 (l := [0, 1]) hg5'' (by decide) 100 (by kernel_rfl) W hb
 have E3 : Hid (∀ (W : World) (v1 v2 : Value) (ww : World), v1 = .slice (some ⟨g8, 0, none⟩) 2 2 → v2 = .slice (some ⟨W.heap.size, 0, none⟩) 2 2 → ww = W.alloc (.cells #[.int .i64 2, .int .i64 3] 3) → Below W6.heap.size W6 W → Calls Try.prog 35 #[v1, v2] ww fun e w' => e = .returned (.bool true) ∧ Below W6.heap.size W6 w') := fun W v1 v2 ww e1 e2 e3 hb => by subst e1 e2 e3; exact eq35 (l := [2, 3]) hg8' (by decide) 100 (by kernel_rfl) W hb
 exact hKc _ _ (chain22 g1 g5 g8 (hf.trans (Fr.of_below hB6)) E1 E2 E3 _ _ _ _ _ _ _ _ _ _ _ _ _ _ _ _ _ _ _ _ _ _ _ _ _ _ _ _ _ _ _ _ _ _ _ _ _ _ _ _ _ _ _ _ _ _ _ _ _ _ _ _ _ _ _ _ _ _ _ _ _ _ _ _ _ _ _ _ _ _ _ _ _ _ _ _ _ _ _ _ _ _ _ _)
set_option maxHeartbeats 4000000 in
theorem row22 (hP : R.P = Try.prog) : R.Calls 22 #[] w0 fun v w => v = .bool true ∧ Fr w0 w := by
 refine Row.calls_from (tmps := #[undef, undef, undef, undef, undef, undef, undef, undef, undef, undef, undef, undef, undef, undef, undef, undef, undef, undef, undef, undef, undef, undef, undef, undef, undef, undef, undef, undef, undef, undef, undef, undef, undef, undef, undef, undef, undef, undef, undef, undef, undef, undef, undef, undef, undef, undef, undef, undef, undef, undef, undef, undef, undef, undef, undef, undef, undef, undef, undef, undef, undef, undef, undef, undef, undef, undef, undef, undef, undef, undef, undef, undef, undef, undef, undef, undef, undef, undef, undef, undef, undef, undef, undef, undef, undef, undef, undef, undef, undef, undef, undef, undef, undef, undef, undef, undef, undef]) (fn := Try.f22) (by rw [hP]; kernel_rfl) body22 (by kernel_rfl) fun hp ok cs hK => ?_
 have hon : ∀ (w : World) (τ : Tape) (d : Nat), Fr w (w.on τ d) := fun w τ d => ⟨rfl, rfl, Nat.le_refl _, fun _ _ => rfl⟩
 refine Row.to (X := At (baseN 22) [.inRegion c22_1 [1, 2, 3, 4, 5, 6], .code b22_2] fun a w => ∃ As cs0 Aa ca, (a.defers = [] ∧ a.tmps.size = 97 ∧ a.tmps.getD 15 undef = .agg (sal 10 25 5 40 10 2 As 3 cs0 Aa 3 ca)) ∧ Lists w As 3 cs0 Aa 3 ca [0, 0, 3] adC ∧ Fr w0 w) ok rfl hp (fun τ d => ?_) ?_
 ·rw [hP]
  have hw := hon w0 τ d
  generalize w0.on τ d = w at hw ⊢
  unfold b22
  refine To.seq (To.code fun Kc hKc => ?_)
  unfold c22_0
  go_wp2
  refine hKc _ _ (To.seq (To.region rfl (To.op (o := ⟨some 15, .call ⟨.value (.func 63), #[], #[]⟩, 36, "outright.go:35", #[], none⟩) rfl rfl fun Kc hKc => ?_)))
  go_simp
  refine Calls.mono (calls63 _) ?_
  rintro e W ⟨_, rfl, As, cs0, Aa, ca, rfl, hL, hb⟩
  exact hKc _ _ (To.here ⟨_, rfl, As, cs0, Aa, ca, ⟨rfl, rfl, rfl⟩, hL, hw.trans (Fr.of_below hb)⟩)
 rintro fr w1 ⟨⟨t, d⟩, rfl, As, cs0, Aa, ca, ⟨hd, hsz, h15⟩, hL, hf⟩ ok1 hk1 hp1
 obtain ⟨f, e⟩ : ∃ f : Nat → Value, t = #[f 0, f 1, f 2, f 3, f 4, f 5, f 6, f 7, f 8, f 9, f 10, f 11, f 12, f 13, f 14, .agg (sal 10 25 5 40 10 2 As 3 cs0 Aa 3 ca), f 16, f 17, f 18, f 19, f 20, f 21, f 22, f 23, f 24, f 25, f 26, f 27, f 28, f 29, f 30, f 31, f 32, f 33, f 34, f 35, f 36, f 37, f 38, f 39, f 40, f 41, f 42, f 43, f 44, f 45, f 46, f 47, f 48, f 49, f 50, f 51, f 52, f 53, f 54, f 55, f 56, f 57, f 58, f 59, f 60, f 61, f 62, f 63, f 64, f 65, f 66, f 67, f 68, f 69, f 70, f 71, f 72, f 73, f 74, f 75, f 76, f 77, f 78, f 79, f 80, f 81, f 82, f 83, f 84, f 85, f 86, f 87, f 88, f 89, f 90, f 91, f 92, f 93, f 94, f 95, f 96] := ⟨fun i => t.getD i undef, by have e := lay22 t hsz; dsimp only at e h15; rw [h15] at e; exact e⟩
 dsimp only at hd
 clear h15 hsz
 subst e hd
 refine Row.callOp (o := ⟨some 16, .call ⟨.value (.func 28), #[.tmp 15], #[36]⟩, 45, "outright.go:35", #[⟨0, .data⟩, ⟨0, .chain⟩], none⟩) ok1 rfl hp1 rfl rfl (fun w => ?_) (row28 hP hL check_counter fun _ => ⟨hL.st, hL.ad, rfl, rfl, by omega, by omega, by decide⟩) fun v w2 hv hp2 ok2 => ?_
 ·rw [hP]
  exact run_call rfl (show Try.prog.funcs[28]? = some Try.f28 by kernel_rfl) rfl rfl (by simp [Act.eval])
 obtain ⟨hf2, v1, rfl, hn⟩ := hv
 rw [if_pos rfl, bills_counter] at hn
 obtain ⟨g1, rfl, -, hg1⟩ := hn
 have hf12 := hf.trans hf2
 refine Row.to (X := At (baseN 22) [.inRegion c22_2 [2, 3, 4, 5, 6, 7], .code b22_3] fun a w => ∃ As cs0 Aa ca, (a.defers = [] ∧ a.tmps.size = 97 ∧ a.tmps.getD 1 undef = .slice (some ⟨g1, 0, none⟩) 3 3 ∧ a.tmps.getD 2 undef = .int .i64 0 ∧ a.tmps.getD 20 undef = .agg (sal 10 25 5 40 10 2 As 3 cs0 Aa 2 ca) ∧ a.tmps.getD 21 undef = .agg #[.int .i64 1, .int .i64 1, .int .i64 1]) ∧ Lists w As 3 cs0 Aa 2 ca [0, 0, 3] adS ∧ Fr w0 w ∧ w.heap[g1]? = some (.cells (nums .i64 [9, 27, 120]).toArray 3 (0, 0))) ok2 rfl hp2 (fun τ d => ?_) ?_
 ·rw [hP]
  have hw := hf12.trans (hon w2 τ d)
  have hg : (w2.on τ d).heap[g1]? = some (.cells (nums .i64 [9, 27, 120]).toArray 3 (0, 0)) := hg1
  generalize w2.on τ d = w at hw hg ⊢
  refine To.op (o := ⟨some 14, .move (.tmp 16), 45, "outright.go:35", #[⟨1, .data⟩], none⟩) rfl rfl fun Kc hKc => ?_
  go_simp
  refine hKc _ _ (To.op (o := ⟨some 17, .extract (.tmp 14) 0, 22, "outright.go:35", #[⟨2, .data⟩], none⟩) rfl rfl fun Kc hKc => ?_)
  go_simp
  refine hKc _ _ (To.op (o := ⟨some 18, .extract (.tmp 14) 1, 27, "outright.go:35", #[⟨2, .data⟩, ⟨5, .gcOnly .lateStores⟩], none⟩) rfl rfl fun Kc hKc => ?_)
  go_simp
  refine hKc _ _ (To.op (o := ⟨some 1, .assign (.tmp 17), 22, "outright.go:35", #[⟨3, .data⟩, ⟨1, .chain⟩, ⟨0, .phase⟩, ⟨1, .phase⟩, ⟨2, .phase⟩, ⟨3, .phase⟩, ⟨4, .textOnly .lateStores⟩], none⟩) rfl rfl fun Kc hKc => ?_)
  go_simp
  refine hKc _ _ (To.op (o := ⟨some 2, .assign (.tmp 18), 27, "outright.go:35", #[⟨4, .data⟩, ⟨5, .chain⟩, ⟨0, .phase⟩, ⟨1, .phase⟩, ⟨2, .phase⟩, ⟨3, .phase⟩, ⟨4, .phase⟩, ⟨5, .phase⟩], none⟩) rfl rfl fun Kc hKc => ?_)
  go_simp
  refine hKc _ _ (To.regionEnd (To.seq (To.region rfl (To.op (o := ⟨some 20, .call ⟨.value (.func 64), #[], #[]⟩, 36, "outright.go:36", #[], none⟩) rfl rfl fun Kc hKc => ?_))))
  go_simp
  refine Calls.mono (calls64 _) ?_
  rintro e W ⟨_, rfl, As, cs0, Aa, ca, rfl, hL, hb⟩
  refine hKc _ _ (To.op (o := ⟨some 21, .build 39 #[(0, .const (.int .i64 1)), (1, .const (.int .i64 1)), (2, .const (.int .i64 1))], 39, "outright.go:36", #[], none⟩) rfl rfl fun Kc hKc => ?_)
  go_simp
  exact hKc _ _ (To.here ⟨_, rfl, As, cs0, Aa, ca, ⟨rfl, rfl, rfl, rfl, rfl, rfl⟩, hL, hw.trans (Fr.of_below hb), (hb.block g1 (blk_lt hg)).trans hg⟩)
 clear ok1 ok2 hp1 hp2 hL hf hf2 hg1 hf12 hk1
 rintro fr w3 ⟨⟨t, d⟩, rfl, As, cs0, Aa, ca, ⟨hd, hsz, h1, h2, h20, h21⟩, hL, hf, hg1⟩ ok1 hk1 hp1
 obtain ⟨f, e⟩ : ∃ f : Nat → Value, t = #[f 0, .slice (some ⟨g1, 0, none⟩) 3 3, .int .i64 0, f 3, f 4, f 5, f 6, f 7, f 8, f 9, f 10, f 11, f 12, f 13, f 14, f 15, f 16, f 17, f 18, f 19, .agg (sal 10 25 5 40 10 2 As 3 cs0 Aa 2 ca), .agg #[.int .i64 1, .int .i64 1, .int .i64 1], f 22, f 23, f 24, f 25, f 26, f 27, f 28, f 29, f 30, f 31, f 32, f 33, f 34, f 35, f 36, f 37, f 38, f 39, f 40, f 41, f 42, f 43, f 44, f 45, f 46, f 47, f 48, f 49, f 50, f 51, f 52, f 53, f 54, f 55, f 56, f 57, f 58, f 59, f 60, f 61, f 62, f 63, f 64, f 65, f 66, f 67, f 68, f 69, f 70, f 71, f 72, f 73, f 74, f 75, f 76, f 77, f 78, f 79, f 80, f 81, f 82, f 83, f 84, f 85, f 86, f 87, f 88, f 89, f 90, f 91, f 92, f 93, f 94, f 95, f 96] := ⟨fun i => t.getD i undef, by have e := lay22 t hsz; dsimp only at e h1 h2 h20 h21; rw [h1, h2, h20, h21] at e; exact e⟩
 dsimp only at hd
 clear h1 h2 h20 h21 hsz
 subst e hd
 refine Row.callOp (o := ⟨some 22, .call ⟨.value (.func 27), #[.tmp 20, .tmp 21], #[36, 39]⟩, 43, "outright.go:36", #[⟨0, .data⟩, ⟨1, .data⟩, ⟨0, .chain⟩], none⟩) ok1 rfl hp1 rfl rfl (fun w => ?_) (row27 (x := ⟨1, 1, 1⟩) (s1 := 138) (s0 := 130) hP hL check_some (fun _ => adErr_some) fun _ _ _ => ⟨⟨hL.st, hL.ad, rfl, rfl, by omega, by omega, by decide⟩, by decide, by rw [bills_more]; exact sum_more, by rw [bills_some]; exact sum_some⟩) fun v w2 hv hp2 ok2 => ?_
 ·rw [hP]
  exact run_call rfl (show Try.prog.funcs[27]? = some Try.f27 by kernel_rfl) rfl rfl (by simp [Act.eval])
 obtain ⟨n, m, he, rfl, hf2⟩ := hv
 have he2 : worthOf 0 0 2 (wrap64 (138 - 130)) = (8, 0) := by kernel_rfl
 rw [he2] at he
 injection he with e1 e2
 subst e1 e2
 have hg2 := (hf2.same g1 (blk_lt hg1)).trans hg1
 refine Row.to ok2 rfl hp2 (fun τ d => ?_) fun fr w3 hx ok3 _ hp3 => hK fr w3 hx ok3 hp3
 rw [hP]
 have hw := (hf.trans hf2).trans (hon w2 τ d)
 have hg : (w2.on τ d).heap[g1]? = some (.cells (nums .i64 [9, 27, 120]).toArray 3 (0, 0)) := hg2
 generalize w2.on τ d = w at hw hg ⊢
 refine To.op (o := ⟨some 19, .move (.tmp 22), 43, "outright.go:36", #[⟨2, .data⟩], none⟩) rfl rfl fun Kc hKc => ?_
 go_simp
 refine hKc _ _ (To.op (o := ⟨some 23, .extract (.tmp 19) 0, 3, "outright.go:36", #[⟨3, .data⟩], none⟩) rfl rfl fun Kc hKc => ?_)
 go_simp
 refine hKc _ _ (To.op (o := ⟨some 24, .extract (.tmp 19) 1, 27, "outright.go:36", #[⟨3, .data⟩, ⟨6, .gcOnly .lateStores⟩], none⟩) rfl rfl fun Kc hKc => ?_)
 go_simp
 refine hKc _ _ (To.op (o := ⟨some 3, .assign (.tmp 23), 3, "outright.go:36", #[⟨4, .data⟩, ⟨2, .chain⟩, ⟨0, .phase⟩, ⟨1, .phase⟩, ⟨2, .phase⟩, ⟨3, .phase⟩, ⟨4, .phase⟩, ⟨5, .textOnly .lateStores⟩], none⟩) rfl rfl fun Kc hKc => ?_)
 go_simp
 refine hKc _ _ (To.op (o := ⟨some 4, .assign (.tmp 24), 27, "outright.go:36", #[⟨5, .data⟩, ⟨6, .chain⟩, ⟨0, .phase⟩, ⟨1, .phase⟩, ⟨2, .phase⟩, ⟨3, .phase⟩, ⟨4, .phase⟩, ⟨5, .phase⟩, ⟨6, .phase⟩], none⟩) rfl rfl fun Kc hKc => ?_)
 go_simp
 refine hKc _ _ (To.regionEnd ?_)
 exact last22 g1 hg hw _ _ _ _ _ _ _ _ _ _ _ _ _ _ _ _ _ _ _ _ _ _ _ _ _ _ _ _ _ _ _ _ _ _ _ _ _ _ _ _ _ _ _ _ _ _ _ _ _ _ _ _ _ _ _ _ _ _ _ _ _ _ _ _ _ _ _ _ _ _ _ _ _ _ _ _ _ _ _ _ _ _ _ _ _ _ _ _ _ _ _ _ _
end
end Go.Ov
namespace Go.Ov
open Go.Conc
end Go.Ov
namespace Go.Ov
open Go.Conc Go.Proofs Go.RowKit Go.Maps Go.Proofs.YtfgedbakbljgfaaW.PrintWords Go.Proofs.YtfgedbakbljgfaaW.PrintLast Go.Proofs.YtfgedbakbljgfaaW.PrintMore Go.Proofs.Ytfgedbakbljgfaa.PBoldSheets
theorem between_t {n a b : Int} (h : a ≤ n ∧ n ≤ b) : bold_between.f n a b = some true := by unfold bold_between.f; rw [if_pos h.1, decide_eq_true h.2]
theorem between_f {n a b : Int} (h : ¬ (a ≤ n ∧ n ≤ b)) : bold_between.f n a b = some false := by
 unfold bold_between.f
 by_cases h1 : a ≤ n
 ·rw [if_pos h1, decide_eq_false (fun h2 => h ⟨h1, h2⟩)]
 ·rw [if_neg h1]
theorem within_t {n a b : Int} (h : a ≤ n ∧ n ≤ b) : wayzgooseref09_within.f n a b = some true := by unfold wayzgooseref09_within.f; rw [if_pos h.1, decide_eq_true h.2]
theorem within_f {n a b : Int} (h : ¬ (a ≤ n ∧ n ≤ b)) : wayzgooseref09_within.f n a b = some false := by
 unfold wayzgooseref09_within.f
 by_cases h1 : a ≤ n
 ·rw [if_pos h1, decide_eq_false (fun h2 => h ⟨h1, h2⟩)]
 ·rw [if_neg (by omega)]
theorem sheets_right {l p q : Int} (hl : 0 ≤ l ∧ l ≤ 100000) (hp : 1 ≤ p ∧ p ≤ 200) (hq : 1 ≤ q ∧ q ≤ 64) :
  ∃ n b, bold_Sheets.f l p q = some (n, b, 0) ∧ wayzgooseref09_Sheets.f l p q = some (n, b, 0) ∧ n * (p * q) = l + b ∧ 0 ≤ n ∧ n ≤ l ∧ 0 ≤ b ∧ b < p * q ∧ (n = 0 ∨ (n - 1) * (p * q) < l) ∧ (1 ≤ p * q ∧ p * q ≤ 12800) := by
 have hs1 : 1 ≤ p * q := by have := Int.mul_le_mul hp.1 hq.1 (by decide) (by omega); simpa using this
 have hs2 : p * q ≤ 12800 := by have := Int.mul_le_mul hp.2 hq.2 (by omega) (by omega); simpa using this
 have hd := Int.emod_add_mul_ediv (l + p * q - 1) (p * q)
 have hm0 := Int.emod_nonneg (l + p * q - 1) (show p * q ≠ 0 by omega)
 have hm1 := Int.emod_lt_of_pos (l + p * q - 1) (show 0 < p * q by omega)
 have hn0 : 0 ≤ (l + p * q - 1) / (p * q) := Int.ediv_nonneg (by omega) (by omega)
 have ht : Int.tdiv (l + p * q - 1) (p * q) = (l + p * q - 1) / (p * q) := Int.tdiv_eq_ediv_of_nonneg (by omega)
 have hnl : (l + p * q - 1) / (p * q) ≤ l := by
  refine Int.lt_add_one_iff.1 (Int.ediv_lt_of_lt_mul (by omega) ?_)
  have : 0 ≤ l * (p * q - 1) := Int.mul_nonneg hl.1 (by omega)
  rw [Int.mul_sub] at this
  rw [Int.add_mul]
  omega
 have hassoc : (l + p * q - 1) / (p * q) * p * q = p * q * ((l + p * q - 1) / (p * q)) := by rw [Int.mul_assoc, Int.mul_comm]
 have hnp0 : 0 ≤ (l + p * q - 1) / (p * q) * p := Int.mul_nonneg hn0 (by omega)
 have hnp1 : (l + p * q - 1) / (p * q) * p ≤ 100000 * 200 := Int.mul_le_mul (by omega) hp.2 (by omega) (by decide)
 have hcomm : (l + p * q - 1) / (p * q) * (p * q) = p * q * ((l + p * q - 1) / (p * q)) := Int.mul_comm _ _
 have hsub : ((l + p * q - 1) / (p * q) - 1) * (p * q) = p * q * ((l + p * q - 1) / (p * q)) - p * q := by rw [Int.sub_mul, Int.one_mul, Int.mul_comm]
 generalize hn : (l + p * q - 1) / (p * q) = n at *
 generalize hm : (l + p * q - 1) % (p * q) = m at *
 generalize hsq : p * q = s at *
 have w1 : wrap64 s = s := by unfold wrap64; omega
 have w2 : wrap64 (l + s) = l + s := by unfold wrap64; omega
 have w3 : wrap64 (l + s - 1) = l + s - 1 := by unfold wrap64; omega
 have w4 : wrap64 n = n := by unfold wrap64; omega
 have w5 : wrap64 (n * s) = n * s := by unfold wrap64; omega
 have w6 : wrap64 (n * s - l) = n * s - l := by unfold wrap64; omega
 have w7 : wrap64 (n * p) = n * p := by unfold wrap64; omega
 have w8 : wrap64 (n * p * q) = n * s := by unfold wrap64; omega
 refine ⟨n, n * s - l, ?_, ?_, by omega, hn0, hnl, by omega, by omega, ?_, by omega, by omega⟩
 ·unfold bold_Sheets.f
  rw [between_t hl, between_t hp, between_t hq]
  simp only [Option.bind_some, if_true, hsq, w1, w2, w3, ht, w4, w5, w6]
  rw [if_neg (by omega)]
 ·unfold wayzgooseref09_Sheets.f
  rw [within_t hl, within_t hp, within_t hq]
  simp only [Option.bind_some, if_true, hsq, w1, w2, w3, ht, w4, w7, w8, w6]
  rw [if_neg (by omega)]
 ·right
  omega
theorem sheets_same (l p q : Int) : ∃ n b e, bold_Sheets.f l p q = some (n, b, e) ∧ wayzgooseref09_Sheets.f l p q = some (n, b, e) := by
 by_cases hl : 0 ≤ l ∧ l ≤ 100000
 case neg => exact ⟨0, 0, 1, by unfold bold_Sheets.f; rw [between_f hl]; rfl, by unfold wayzgooseref09_Sheets.f; rw [within_f hl]; rfl⟩
 by_cases hp : 1 ≤ p ∧ p ≤ 200
 case neg => exact ⟨0, 0, 1, by unfold bold_Sheets.f; rw [between_t hl, between_f hp]; rfl, by unfold wayzgooseref09_Sheets.f; rw [within_t hl, within_f hp]; rfl⟩
 by_cases hq : 1 ≤ q ∧ q ≤ 64
 case neg => exact ⟨0, 0, 1, by unfold bold_Sheets.f; rw [between_t hl, between_t hp, between_f hq]; rfl, by unfold wayzgooseref09_Sheets.f; rw [within_t hl, within_t hp, within_f hq]; rfl⟩
 obtain ⟨n, b, h1, h2, _⟩ := sheets_right hl hp hq
 exact ⟨n, b, 0, h1, h2⟩
noncomputable def c3_0 : Array Oper := (fun {c} (_ : rg Try.f3 0 = some c) => c) rfl
noncomputable def c3_1 : Array Oper := (fun {c} (_ : rg Try.f3 1 = some c) => c) rfl
noncomputable def c3_2 : Array Oper := (fun {c} (_ : rg Try.f3 2 = some c) => c) rfl
noncomputable def c3_3 : Array Oper := (fun {c} (_ : rg Try.f3 3 = some c) => c) rfl
noncomputable def c3_4 : Array Oper := (fun {c} (_ : rg Try.f3 4 = some c) => c) rfl
noncomputable def c3_5 : Array Oper := (fun {c} (_ : rg Try.f3 5 = some c) => c) rfl
noncomputable def c3_7 : Array Oper := (fun {c} (_ : rg Try.f3 7 = some c) => c) rfl
noncomputable def c3_8 : Array Oper := (fun {c} (_ : rg Try.f3 8 = some c) => c) rfl
noncomputable def c3_9 : Array Oper := (fun {c} (_ : rg Try.f3 9 = some c) => c) rfl
noncomputable def c3_10 : Array Oper := (fun {c} (_ : rg Try.f3 10 = some c) => c) rfl
noncomputable def c3_6 : Array Oper := (fun {c} (_ : rg Try.f3 6 = some c) => c) rfl
noncomputable def l3_0 : Code := (.seq (.seq (.region 5 c3_5 false) (.cond (Operand.tmp 55) Code.skip (Code.exit 0))) (.seq (.block 1 (.seq (.region 7 c3_7 true) (.seq (.region 8 c3_8 true) (.seq (.region 9 c3_9 false) (.cond (Operand.tmp 104) (.seq (.region 10 c3_10 false) Code.ret) Code.skip))))) (.region 6 c3_6 false)))
noncomputable def c3_11 : Array Oper := (fun {c} (_ : rg Try.f3 11 = some c) => c) rfl
noncomputable def b3 : Code := (.seq (.region 0 c3_0 false) (.seq (.region 1 c3_1 false) (.seq (.region 2 c3_2 false) (.seq (.region 3 c3_3 false) (.seq (.seq (.region 4 c3_4 false) (.block 0 (.loop l3_0))) (.seq (.region 11 c3_11 false) Code.ret))))))
theorem body3 : Try.f3.body = some b3 := by kernel_rfl
theorem calls17 {w0 w : World} (hB : Below w0.heap.size w0 w) (A : Option Addr) (n c : Nat) (l : List Int) (hr : Kd.C (Kd.int .i64) w0 A n l) (hc : n ≤ c) :
  Calls Try.prog 17 #[.slice A n c] w fun e w' => ∃ v, e = .returned v ∧ (∃ g, v = ptr g ∧ Dic w0 w' g) ∧ Below w.heap.size w w' := by
 have hlen : l.length = n := Kd.C_len hr
 subst hlen
 refine Calls.mono (wayzgoosekit_NewDice.calls A c l l 0 11400714819323198485 w0 w hB hr hc rfl) ?_
 rintro e W ⟨g, rfl, ⟨A0, c0, h1, h2, h3⟩, h4, h5⟩
 exact ⟨_, rfl, ⟨g, rfl, h2, h4, A0, l.length, c0, 0, _, l, h1, Nat.zero_le _, h3⟩, h5⟩
structure Fives (W : World) (ga gb gc : Nat) (la lb lc : List Int) : Prop where
 a : W.heap[ga]? = some (.cells (nums .i64 la).toArray 3 (0, 0))
 b : W.heap[gb]? = some (.cells (nums .i64 lb).toArray 3 (0, 0))
 c : W.heap[gc]? = some (.cells (nums .i64 lc).toArray 3 (0, 0))
theorem Fives.below {W W2 : World} {ga gb gc : Nat} {la lb lc : List Int} (h : Fives W ga gb gc la lb lc) (hb : Below W.heap.size W W2) : Fives W2 ga gb gc la lb lc :=
 ⟨(hb.block _ (blk_lt h.a)).trans h.a, (hb.block _ (blk_lt h.b)).trans h.b, (hb.block _ (blk_lt h.c)).trans h.c⟩
theorem num_cell {W : World} {g : Nat} {l : List Int} (h : W.heap[g]? = some (.cells (nums .i64 l).toArray 3 (0, 0))) (i : Nat) (hi : i < l.length) : W.cell? ⟨g, i, none⟩ = some (.int .i64 (l.getD i 0)) := by
 rw [blk_cell h]
 simp [nums, hi]
theorem fives_new (W : World) (la lb lc : List Int) : Fives (((W.alloc (.cells (nums .i64 la).toArray 3)).alloc (.cells (nums .i64 lb).toArray 3)).alloc (.cells (nums .i64 lc).toArray 3)) W.heap.size (W.heap.size + 1) (W.heap.size + 1 + 1) la lb lc ∧
  Below W.heap.size W (((W.alloc (.cells (nums .i64 la).toArray 3)).alloc (.cells (nums .i64 lb).toArray 3)).alloc (.cells (nums .i64 lc).toArray 3)) := by
 have s1 : (W.alloc (.cells (nums .i64 la).toArray 3)).heap.size = W.heap.size + 1 := by simp
 have s2 : ((W.alloc (.cells (nums .i64 la).toArray 3)).alloc (.cells (nums .i64 lb).toArray 3)).heap.size = W.heap.size + 1 + 1 := by simp
 have b1 : Below W.heap.size W (W.alloc (.cells (nums .i64 la).toArray 3)) := (Below.refl _ _).alloc (Nat.le_refl _) _
 have b2 : Below (W.heap.size + 1) (W.alloc (.cells (nums .i64 la).toArray 3)) ((W.alloc (.cells (nums .i64 la).toArray 3)).alloc (.cells (nums .i64 lb).toArray 3)) := s1 ▸ (Below.refl _ _).alloc (Nat.le_refl _) _
 have b3 : Below (W.heap.size + 1 + 1) ((W.alloc (.cells (nums .i64 la).toArray 3)).alloc (.cells (nums .i64 lb).toArray 3)) (((W.alloc (.cells (nums .i64 la).toArray 3)).alloc (.cells (nums .i64 lb).toArray 3)).alloc (.cells (nums .i64 lc).toArray 3)) := s2 ▸ (Below.refl _ _).alloc (Nat.le_refl _) _
 have h1 := heap_alloc_new W (.cells (nums .i64 la).toArray 3)
 have h2 := heap_alloc_new (W.alloc (.cells (nums .i64 la).toArray 3)) (.cells (nums .i64 lb).toArray 3)
 have h3 := heap_alloc_new ((W.alloc (.cells (nums .i64 la).toArray 3)).alloc (.cells (nums .i64 lb).toArray 3)) (.cells (nums .i64 lc).toArray 3)
 rw [s1] at h2
 rw [s2] at h3
 refine ⟨⟨(b3.block _ (by omega)).trans ((b2.block _ (by omega)).trans h1), (b3.block _ (by omega)).trans h2, h3⟩, b1.trans ((b2.mono (by omega)).trans (b3.mono (by omega)))⟩
section
variable {cs : List Frame} {Y : Frame → World → Prop} {K : List Item}
set_option maxHeartbeats 4000000 in
theorem loop3 {w : World} (ga gb gc : Nat) (la lb lc : List Int) (ha : la.length = 5) (hb : lb.length = 5) (hc : lc.length = 5) (v0 : Value)
  (hend : ∀ t0 t1 t2 t3 t4 t5 t6 t7 t8 t9 jA jW xA jL yK qH yC jD yH jE xV xT qE qI xB qB qM jF qG jK jM xJ xZ qO xI jQ yM qL xY xH jH yN jT jY yD jX yE qU qP xN qN jO yB yI jR qA xL xW jV qD xM qZ qC xU xQ yA jN xX xP xE qF xC yL qJ qV yG jJ jS xF qY xS xD qQ jZ jB xO xR jC qK jP qW qS yF xK qR jG qX xG yJ jI jU qT V, Below w.heap.size w V → To Try.prog cs Y ((baseN 3).at ({ tmps := #[t0, t1, t2, t3, t4, t5, t6, t7, t8, t9, jA, jW, .slice (some ⟨ga, 0, none⟩) 5 5, .slice (some ⟨gb, 0, none⟩) 5 5, .slice (some ⟨gc, 0, none⟩) 5 5, .int .i64 5, xA, jL, yK, qH, yC, jD, yH, jE, xV, xT, qE, qI, xB, qB, qM, jF, qG, jK, jM, xJ, xZ, qO, xI, jQ, yM, qL, xY, xH, jH, yN, jT, jY, yD, jX, yE, qU, qP, xN, qN, jO, yB, yI, jR, qA, xL, xW, jV, qD, xM, qZ, qC, xU, xQ, yA, jN, xX, xP, xE, qF, xC, yL, qJ, qV, yG, jJ, jS, xF, qY, xS, xD, qQ, jZ, jB, xO, xR, jC, qK, jP, qW, qS, yF, xK, qR, jG, qX, xG, yJ, jI, jU, qT], defers := [] } : Act) K) V) :
  ∀ (r k : Nat), k + r = 5 → ∀ t0 t1 t2 t3 t4 t5 t6 t7 t8 t9 jA jW xA jL yK qH yC jD yH jE xV xT qE qI xB qB qM jF qG jK jM xJ xZ qO xI jQ yM qL xY xH jH yN jT jY yD jX yE qU qP xN qN jO yB yI jR qA xL xW jV qD xM qZ qC xU xQ yA jN xX xP xE qF xC yL qJ qV yG jJ jS xF qY xS xD qQ jZ jB xO xR jC qK jP qW qS yF xK qR jG qX xG yJ jI jU qT V, Below w.heap.size w V → Fives V ga gb gc la lb lc →
   To Try.prog cs Y ((baseN 3).at ({ tmps := #[t0, t1, t2, t3, t4, t5, t6, t7, t8, t9, jA, jW, .slice (some ⟨ga, 0, none⟩) 5 5, .slice (some ⟨gb, 0, none⟩) 5 5, .slice (some ⟨gc, 0, none⟩) 5 5, .int .i64 (k : Int), xA, jL, yK, qH, yC, jD, yH, jE, xV, xT, qE, qI, xB, qB, qM, jF, qG, jK, jM, xJ, xZ, qO, xI, jQ, yM, qL, xY, xH, jH, yN, jT, jY, yD, jX, yE, qU, qP, xN, qN, jO, yB, yI, jR, qA, xL, xW, jV, qD, xM, qZ, qC, xU, xQ, yA, jN, xX, xP, xE, qF, xC, yL, qJ, qV, yG, jJ, jS, xF, qY, xS, xD, qQ, jZ, jB, xO, xR, jC, qK, jP, qW, qS, yF, xK, qR, jG, qX, xG, yJ, jI, jU, qT], defers := [] } : Act) (.code l3_0 :: .inLoop l3_0 :: .inBlock 0 :: K)) V := by
 intro r
 dsimp only at hend ⊢
 induction r with
 | zero =>
  intro k hk t0 t1 t2 t3 t4 t5 t6 t7 t8 t9 jA jW xA jL yK qH yC jD yH jE xV xT qE qI xB qB qM jF qG jK jM xJ xZ qO xI jQ yM qL xY xH jH yN jT jY yD jX yE qU qP xN qN jO yB yI jR qA xL xW jV qD xM qZ qC xU xQ yA jN xX xP xE qF xC yL qJ qV yG jJ jS xF qY xS xD qQ jZ jB xO xR jC qK jP qW qS yF xK qR jG qX xG yJ jI jU qT V hB hF
  obtain rfl : k = 5 := by omega
  refine To.seq (To.seq (To.code fun Kc hKc => ?_))
  unfold c3_5
  go_wp2
  exact hKc _ _ (To.no rfl (To.exit rfl (hend _ _ _ _ _ _ _ _ _ _ _ _ _ _ _ _ _ _ _ _ _ _ _ _ _ _ _ _ _ _ _ _ _ _ _ _ _ _ _ _ _ _ _ _ _ _ _ _ _ _ _ _ _ _ _ _ _ _ _ _ _ _ _ _ _ _ _ _ _ _ _ _ _ _ _ _ _ _ _ _ _ _ _ _ _ _ _ _ _ _ _ _ _ _ _ _ _ _ _ _ _ _ V hB)))
 | succ r ih =>
  intro k hk t0 t1 t2 t3 t4 t5 t6 t7 t8 t9 jA jW xA jL yK qH yC jD yH jE xV xT qE qI xB qB qM jF qG jK jM xJ xZ qO xI jQ yM qL xY xH jH yN jT jY yD jX yE qU qP xN qN jO yB yI jR qA xL xW jV qD xM qZ qC xU xQ yA jN xX xP xE qF xC yL qJ qV yG jJ jS xF qY xS xD qQ jZ jB xO xR jC qK jP qW qS yF xK qR jG qX xG yJ jI jU qT V hB hF
  try dsimp only at ih
  replace ih : Hid _ := ih
  have HE : Hid _ := hend
  clear hend
  have hlt : (k : Int) < 5 := by omega
  refine To.seq (To.seq (To.code fun Kc hKc => ?_))
  unfold c3_5
  go_wp2
  refine hKc _ _ (To.yes rfl (To.skip (To.seq (To.block (To.seq (To.code fun Kc hKc => ?_))))))
  have fa : ∀ W', Below V.heap.size V W' → W'.cell? ⟨ga, k, none⟩ = some (.int .i64 (la.getD k 0)) := fun W' h => num_cell (hF.below h).a k (by omega)
  have fb : ∀ W', Below V.heap.size V W' → W'.cell? ⟨gb, k, none⟩ = some (.int .i64 (lb.getD k 0)) := fun W' h => num_cell (hF.below h).b k (by omega)
  have fc : ∀ W', Below V.heap.size V W' → W'.cell? ⟨gc, k, none⟩ = some (.int .i64 (lc.getD k 0)) := fun W' h => num_cell (hF.below h).c k (by omega)
  obtain ⟨n, b, e, h1, h2⟩ := sheets_same (la.getD k 0) (lb.getD k 0) (lc.getD k 0)
  generalize la.getD k 0 = x at fa h1 h2
  generalize lb.getD k 0 = y at fb h1 h2
  generalize lc.getD k 0 = z at fc h1 h2
  have C20 : Hid _ := fun W => (bold_Sheets.calls x y z n b e W h1).mono (R' := fun e' w' => e' = .returned (.tuple #[.int .i64 n, .int .i64 b, .int .i64 e]) ∧ Below W.heap.size W w') fun e' w' h => ⟨h.1, h.2.below⟩
  have C21 : Hid _ := fun W => (wayzgooseref09_Sheets.calls x y z n b e W h2).mono (R' := fun e' w' => e' = .returned (.tuple #[.int .i64 n, .int .i64 b, .int .i64 e]) ∧ Below W.heap.size W w') fun e' w' h => ⟨h.1, h.2.below⟩
  clear h1 h2
  have hrefl : Below V.heap.size V V := Below.refl _ _
  have HF : Hid _ := fun W' (h : Below V.heap.size V W') => hF.below h
  have HB : Hid _ := fun W' (h : Below V.heap.size V W') => hB.trans (h.mono hB.size)
  clear hF hB
  unfold c3_7
  dsimp only
  go_region_held3 (fun w' => Below V.heap.size V w') (first | exact Below.drew (by assumption) | assumption) (first | (go_at_call 20; refine Calls.mono (C20.out _) ?_; rintro e w' ⟨rfl, hb'⟩; replace hb' := below_then ‹Below V.heap.size V _› (Below.size ‹Below V.heap.size V _›) hb'))
  refine hKc _ _ (To.seq (To.code fun Kc hKc => ?_))
  unfold c3_8
  dsimp only
  go_region_held3 (fun w' => Below V.heap.size V w') (first | exact Below.drew (by assumption) | assumption) (first | (go_at_call 21; refine Calls.mono (C21.out _) ?_; rintro e w' ⟨rfl, hb'⟩; replace hb' := below_then ‹Below V.heap.size V _› (Below.size ‹Below V.heap.size V _›) hb'))
  have hS := ‹Below V.heap.size V _›
  refine hKc _ _ (To.seq (To.code fun Kc hKc => ?_))
  unfold c3_9
  go_wp2
  refine hKc _ _ (To.no (by first | rfl | simp [Act.eval]) (To.skip (To.inBlock (To.code fun Kc hKc => ?_))))
  have hw1 : IntKind.i64.wrap ((k : Int) + 1) = (k : Int) + 1 := by rw [i64w]; unfold wrap64; omega
  unfold c3_6
  go_wp2
  refine hKc _ _ (To.inLoop ?_)
  rw [show ((k : Int) + 1) = ((k + 1 : Nat) : Int) by omega]
  exact ih.out (k + 1) (by omega) _ _ _ _ _ _ _ _ _ _ _ _ _ _ _ _ _ _ _ _ _ _ _ _ _ _ _ _ _ _ _ _ _ _ _ _ _ _ _ _ _ _ _ _ _ _ _ _ _ _ _ _ _ _ _ _ _ _ _ _ _ _ _ _ _ _ _ _ _ _ _ _ _ _ _ _ _ _ _ _ _ _ _ _ _ _ _ _ _ _ _ _ _ _ _ _ _ _ _ _ _ _ _ (HB.out _ hS) (HF.out _ hS)
set_option maxHeartbeats 4000000 in
theorem head3 {w : World} (x0 x1 x2 : Int) (A : Option Addr) (n c : Nat) (l : List Int) (hr : Kd.C (Kd.int .i64) w A n l) (hc : n ≤ c) :
  To Try.prog cs (At (baseN 3) [.inRegion c3_11 [0, 1], .code .ret] fun a w' => (a.defers = [] ∧ a.tmps.size = 106) ∧ Below w.heap.size w w') ((baseN 3).at { tmps := #[.int .i64 x0, .int .i64 x1, .int .i64 x2, .slice A n c, undef, undef, undef, undef, undef, undef, undef, undef, undef, undef, undef, undef, undef, undef, undef, undef, undef, undef, undef, undef, undef, undef, undef, undef, undef, undef, undef, undef, undef, undef, undef, undef, undef, undef, undef, undef, undef, undef, undef, undef, undef, undef, undef, undef, undef, undef, undef, undef, undef, undef, undef, undef, undef, undef, undef, undef, undef, undef, undef, undef, undef, undef, undef, undef, undef, undef, undef, undef, undef, undef, undef, undef, undef, undef, undef, undef, undef, undef, undef, undef, undef, undef, undef, undef, undef, undef, undef, undef, undef, undef, undef, undef, undef, undef, undef, undef, undef, undef, undef, undef, undef, undef], defers := [] } [.code b3]) w := by
 unfold b3
 refine To.seq (To.code fun Kc hKc => ?_)
 unfold c3_0
 go_wp2
 refine hKc _ _ (To.seq (To.code fun Kc hKc => ?_))
 unfold c3_1
 go_wp2_with (go_at_call 17; refine Calls.mono (calls17 (Below.refl _ _) A n c l hr hc) ?_; rintro e W0 ⟨_, rfl, ⟨g, rfl, hd0⟩, hb0⟩; dsimp only)
 refine hKc _ _ (To.seq (To.code fun Kc hKc => ?_))
 unfold c3_2
 go_wp2_with (go_at_call 18; refine Calls.mono (calls18 (by assumption) _ _ (by omega) (by omega)) ?_; rintro e W ⟨_, rfl, ⟨x, rfl, hx0, hx1, hx2⟩, hd, hgr⟩; dsimp only)
 rename_i W1 p hp0 hp1 hp2 hd1 hgr1
 refine hKc _ _ (To.seq (To.code fun Kc hKc => ?_))
 unfold c3_3
 go_wp2_with (go_at_call 19; refine Calls.mono (calls19 (by assumption) _ (by omega)) ?_; rintro e W2 ⟨_, rfl, ⟨y, rfl, hy0, hy1, hy2⟩, hd2, hgr2⟩; dsimp only)
 obtain ⟨hF, hb3⟩ := fives_new W2 [x0, y, wrap64 (p * x), wrap64 (wrap64 (p * x) + 1), x0] [x1, p, p, p, p] [x2, x, x, x, x]
 have hB := hd2.below.trans (hb3.mono hd2.below.size)
 replace hF : Hid _ := hF
 replace hB : Hid _ := hB
 refine hKc _ _ (To.seq (To.seq (To.code fun Kc hKc => ?_)))
 unfold c3_4
 go_wp2
 refine hKc _ _ (To.block (To.loop ?_))
 refine loop3 _ _ _ _ _ _ rfl rfl rfl (.int .i64 x0) ?_ 5 0 (by omega) _ _ _ _ _ _ _ _ _ _ _ _ _ _ _ _ _ _ _ _ _ _ _ _ _ _ _ _ _ _ _ _ _ _ _ _ _ _ _ _ _ _ _ _ _ _ _ _ _ _ _ _ _ _ _ _ _ _ _ _ _ _ _ _ _ _ _ _ _ _ _ _ _ _ _ _ _ _ _ _ _ _ _ _ _ _ _ _ _ _ _ _ _ _ _ _ _ _ _ _ _ _ _ (Below.refl _ _) hF.out
 intro t0 t1 t2 t3 t4 t5 t6 t7 t8 t9 jA jW xA jL yK qH yC jD yH jE xV xT qE qI xB qB qM jF qG jK jM xJ xZ qO xI jQ yM qL xY xH jH yN jT jY yD jX yE qU qP xN qN jO yB yI jR qA xL xW jV qD xM qZ qC xU xQ yA jN xX xP xE qF xC yL qJ qV yG jJ jS xF qY xS xD qQ jZ jB xO xR jC qK jP qW qS yF xK qR jG qX xG yJ jI jU qT V hbV
 exact To.seq (To.region rfl (To.here ⟨_, rfl, ⟨rfl, rfl⟩, hB.out.trans (hbV.mono hB.out.size)⟩))
end
theorem lay3 (t : Array Value) (h : t.size = 106) : t = (fun f : Nat → Value => #[f 0, f 1, f 2, f 3, f 4, f 5, f 6, f 7, f 8, f 9, f 10, f 11, f 12, f 13, f 14, f 15, f 16, f 17, f 18, f 19, f 20, f 21, f 22, f 23, f 24, f 25, f 26, f 27, f 28, f 29, f 30, f 31, f 32, f 33, f 34, f 35, f 36, f 37, f 38, f 39, f 40, f 41, f 42, f 43, f 44, f 45, f 46, f 47, f 48, f 49, f 50, f 51, f 52, f 53, f 54, f 55, f 56, f 57, f 58, f 59, f 60, f 61, f 62, f 63, f 64, f 65, f 66, f 67, f 68, f 69, f 70, f 71, f 72, f 73, f 74, f 75, f 76, f 77, f 78, f 79, f 80, f 81, f 82, f 83, f 84, f 85, f 86, f 87, f 88, f 89, f 90, f 91, f 92, f 93, f 94, f 95, f 96, f 97, f 98, f 99, f 100, f 101, f 102, f 103, f 104, f 105]) (fun i => t.getD i undef) := (lay_tmps 106 t h).trans rfl
set_option maxHeartbeats 4000000 in
theorem row3 {R : Row} {w0 : World} (hP : R.P = Try.prog) (x0 x1 x2 : Int) (A : Option Addr) (n c : Nat) (l : List Int) (hr : Kd.C (Kd.int .i64) w0 A n l) (hc : n ≤ c) :
  R.Calls 3 #[.int .i64 x0, .int .i64 x1, .int .i64 x2, .slice A n c] w0 fun v w => v = .bool true ∧ Fr w0 w := by
 refine Row.calls_from (tmps := #[.int .i64 x0, .int .i64 x1, .int .i64 x2, .slice A n c, undef, undef, undef, undef, undef, undef, undef, undef, undef, undef, undef, undef, undef, undef, undef, undef, undef, undef, undef, undef, undef, undef, undef, undef, undef, undef, undef, undef, undef, undef, undef, undef, undef, undef, undef, undef, undef, undef, undef, undef, undef, undef, undef, undef, undef, undef, undef, undef, undef, undef, undef, undef, undef, undef, undef, undef, undef, undef, undef, undef, undef, undef, undef, undef, undef, undef, undef, undef, undef, undef, undef, undef, undef, undef, undef, undef, undef, undef, undef, undef, undef, undef, undef, undef, undef, undef, undef, undef, undef, undef, undef, undef, undef, undef, undef, undef, undef, undef, undef, undef, undef, undef]) (fn := Try.f3) (by rw [hP]; kernel_rfl) body3 (by kernel_rfl) fun hp ok cs hK => ?_
 have hon : ∀ (w : World) (τ : Tape) (d : Nat), Fr w (w.on τ d) := fun w τ d => ⟨rfl, rfl, Nat.le_refl _, fun _ _ => rfl⟩
 refine Row.to (X := At (baseN 3) [.inRegion c3_11 [0, 1], .code .ret] fun a w => (a.defers = [] ∧ a.tmps.size = 106) ∧ Fr w0 w) ok rfl hp (fun τ d => ?_) ?_
 ·rw [hP]
  refine (head3 (w := w0.on τ d) x0 x1 x2 A n c l hr hc).mono fun fr w h => ?_
  obtain ⟨a, h1, h2, h3⟩ := h
  exact ⟨a, h1, h2, (hon w0 τ d).trans (Fr.of_below h3)⟩
 rintro fr w1 ⟨⟨t, d⟩, rfl, ⟨hd, hsz⟩, hf⟩ ok1 hk1 hp1
 obtain ⟨f, e⟩ : ∃ f : Nat → Value, t = #[f 0, f 1, f 2, f 3, f 4, f 5, f 6, f 7, f 8, f 9, f 10, f 11, f 12, f 13, f 14, f 15, f 16, f 17, f 18, f 19, f 20, f 21, f 22, f 23, f 24, f 25, f 26, f 27, f 28, f 29, f 30, f 31, f 32, f 33, f 34, f 35, f 36, f 37, f 38, f 39, f 40, f 41, f 42, f 43, f 44, f 45, f 46, f 47, f 48, f 49, f 50, f 51, f 52, f 53, f 54, f 55, f 56, f 57, f 58, f 59, f 60, f 61, f 62, f 63, f 64, f 65, f 66, f 67, f 68, f 69, f 70, f 71, f 72, f 73, f 74, f 75, f 76, f 77, f 78, f 79, f 80, f 81, f 82, f 83, f 84, f 85, f 86, f 87, f 88, f 89, f 90, f 91, f 92, f 93, f 94, f 95, f 96, f 97, f 98, f 99, f 100, f 101, f 102, f 103, f 104, f 105] := ⟨fun i => t.getD i undef, by have e := lay3 t hsz; dsimp only at e; exact e⟩
 dsimp only at hd
 clear hsz
 subst e hd
 refine Row.callOp (o := ⟨some 105, .call ⟨.value (.func 22), #[], #[]⟩, 4, "law.go:141", #[], none⟩) ok1 rfl hp1 rfl rfl (fun w => ?_) (row22 hP) fun v w2 hv hp2 ok2 => ?_
 ·rw [hP]
  exact run_call rfl (show Try.prog.funcs[22]? = some Try.f22 by kernel_rfl) rfl rfl (by simp [Act.eval])
 obtain ⟨rfl, hf2⟩ := hv
 refine Row.to ok2 rfl hp2 (fun τ d => ?_) fun fr w3 hx ok3 _ hp3 => hK fr w3 hx ok3 hp3
 rw [hP]
 have hw := (hf.trans hf2).trans (hon w2 τ d)
 generalize w2.on τ d = w at hw ⊢
 refine To.op (o := ⟨some 8, .assign (.tmp 105), 4, "law.go:141", #[⟨0, .data⟩, ⟨0, .chain⟩, ⟨0, .phase⟩], none⟩) rfl rfl fun Kc hKc => ?_
 go_simp
 exact hKc _ _ (To.regionEnd (To.ret Try.func3 rfl (results_tmp rfl _ _ _) ⟨rfl, hw⟩))
end Go.Ov
