/- Part 4 of a proof: no statement of its own. -/
import Derived.Test.YtfgedbakbljgfaaB3
import Derived.Deep.RegionHeld3
set_option linter.unusedVariables false
set_option linter.unusedSimpArgs false
set_option maxRecDepth 20000
namespace Go.Ov
open Go.Conc Go.Proofs Go.RowKit Go.Maps Go.Proofs.YtfgedbakbljgfaaW.PrintWords Go.Proofs.YtfgedbakbljgfaaW.PrintLast Go.Proofs.YtfgedbakbljgfaaW.PrintMore Go.Proofs.Ytfgedbakbljgfaa.PBoldSheets
noncomputable def c115_0 : Array Oper := (fun {c} (_ : rg Try.f115 0 = some c) => c) rfl
noncomputable def c115_1 : Array Oper := (fun {c} (_ : rg Try.f115 1 = some c) => c) rfl
noncomputable def c115_2 : Array Oper := (fun {c} (_ : rg Try.f115 2 = some c) => c) rfl
noncomputable def c115_3 : Array Oper := (fun {c} (_ : rg Try.f115 3 = some c) => c) rfl
noncomputable def c115_4 : Array Oper := (fun {c} (_ : rg Try.f115 4 = some c) => c) rfl
noncomputable def c115_5 : Array Oper := (fun {c} (_ : rg Try.f115 5 = some c) => c) rfl
noncomputable def c115_6 : Array Oper := (fun {c} (_ : rg Try.f115 6 = some c) => c) rfl
noncomputable def c115_8 : Array Oper := (fun {c} (_ : rg Try.f115 8 = some c) => c) rfl
noncomputable def c115_9 : Array Oper := (fun {c} (_ : rg Try.f115 9 = some c) => c) rfl
noncomputable def c115_10 : Array Oper := (fun {c} (_ : rg Try.f115 10 = some c) => c) rfl
noncomputable def c115_11 : Array Oper := (fun {c} (_ : rg Try.f115 11 = some c) => c) rfl
noncomputable def c115_12 : Array Oper := (fun {c} (_ : rg Try.f115 12 = some c) => c) rfl
noncomputable def c115_13 : Array Oper := (fun {c} (_ : rg Try.f115 13 = some c) => c) rfl
noncomputable def c115_14 : Array Oper := (fun {c} (_ : rg Try.f115 14 = some c) => c) rfl
noncomputable def c115_15 : Array Oper := (fun {c} (_ : rg Try.f115 15 = some c) => c) rfl
noncomputable def c115_16 : Array Oper := (fun {c} (_ : rg Try.f115 16 = some c) => c) rfl
noncomputable def l115_1 : Code := (.seq (.region 10 c115_10 false) (.seq (.cond (Operand.tmp 45) Code.skip (Code.exit 2)) (.seq (.block 3 (.seq (.region 11 c115_11 false) (.seq (.region 12 c115_12 false) (.cond (Operand.tmp 52) (.seq (.region 13 c115_13 false) (.seq (.region 14 c115_14 false) (.region 15 c115_15 false))) Code.skip)))) (.region 16 c115_16 false))))
noncomputable def c115_7 : Array Oper := (fun {c} (_ : rg Try.f115 7 = some c) => c) rfl
noncomputable def l115_0 : Code := (.seq (.seq (.region 6 c115_6 false) (.cond (Operand.tmp 30) Code.skip (Code.exit 0))) (.seq (.block 1 (.seq (.region 8 c115_8 false) (.seq (.region 9 c115_9 false) (.block 2 (.loop l115_1))))) (.region 7 c115_7 false)))
noncomputable def c115_17 : Array Oper := (fun {c} (_ : rg Try.f115 17 = some c) => c) rfl
noncomputable def b115 : Code := (.seq (.region 0 c115_0 false) (.seq (.region 1 c115_1 false) (.seq (.region 2 c115_2 false) (.seq (.region 3 c115_3 false) (.seq (.region 4 c115_4 false) (.seq (.seq (.region 5 c115_5 false) (.block 0 (.loop l115_0))) (.seq (.region 17 c115_17 false) Code.ret)))))))
theorem body115 : Try.f115.body = some b115 := by kernel_rfl
def see1 (d : Int) (s : List Int × List Int) (n : Int) : List Int × List Int := if s.1.getD n.toNat 0 < 0 then (s.1.set n.toNat (s.1.getD d.toNat 0 + 1), s.2 ++ [n]) else s
def visit (hd : List S68) (d : Int) (s : List Int × List Int) : List Int × List Int := (nextsOf (rd_T68 hd d)).foldl (see1 d) s
def bfs (hd : List S68) : Nat → List Int × List Int → List Int
 | 0, s => s.1
 | k + 1, (out, q) => match q with
  | [] => out
  | d :: q => bfs hd k (visit hd d (out, q))
def neg (out : List Int) : Nat := out.countP (fun x => decide (x < 0))
structure Small (nh : Nat) (out q : List Int) : Prop where
 len : out.length = nh
 inq : ∀ x ∈ q, 0 ≤ x ∧ x < nh ∧ 0 ≤ out.getD x.toNat 0
 val : ∀ x ∈ out, -1 ≤ x ∧ x ≤ (nh : Int) - neg out
 room : q.length + neg out ≤ nh
theorem neg_set {out : List Int} {i : Nat} {v : Int} (hi : i < out.length) (h : out.getD i 0 < 0) (hv : 0 ≤ v) : neg (out.set i v) + 1 = neg out := by
 unfold neg
 rw [List.getD_eq_getElem?_getD, List.getElem?_eq_getElem hi, Option.getD_some] at h
 have hpos : 0 < out.countP (fun x => decide (x < 0)) := List.countP_pos_iff.2 ⟨out[i], List.getElem_mem hi, by simpa using h⟩
 rw [List.countP_set hi]
 simp only [h, decide_true, if_true]
 have : ¬ v < 0 := by omega
 simp only [this, decide_false]
 simp
 omega
theorem getD_set {out : List Int} {i j : Nat} {v : Int} (hi : i < out.length) : (out.set i v).getD j 0 = if i = j then v else out.getD j 0 := by
 rw [List.getD_eq_getElem?_getD, List.getD_eq_getElem?_getD, List.getElem?_set]
 split
 ·rename_i e; subst e; simp [hi]
 ·rfl
theorem Small.see {nh : Nat} {out q : List Int} {d n : Int} (h : Small nh out q) (hn : 0 ≤ n ∧ n < nh) (hd : 0 ≤ d ∧ d < nh ∧ 0 ≤ out.getD d.toNat 0) (hlt : out.getD n.toNat 0 < 0) :
  Small nh (out.set n.toNat (out.getD d.toNat 0 + 1)) (q ++ [n]) ∧ neg (out.set n.toNat (out.getD d.toNat 0 + 1)) + 1 = neg out ∧ out.getD d.toNat 0 + 1 ≤ nh ∧ 0 ≤ (out.set n.toNat (out.getD d.toNat 0 + 1)).getD d.toNat 0 := by
 have hil : n.toNat < out.length := by rw [h.len]; omega
 have hdl : d.toNat < out.length := by rw [h.len]; omega
 have hneg := neg_set (v := out.getD d.toNat 0 + 1) hil hlt (by omega)
 have hdv : out.getD d.toNat 0 ≤ (nh : Int) - neg out := by
  rw [List.getD_eq_getElem?_getD, List.getElem?_eq_getElem hdl, Option.getD_some]
  exact (h.val _ (List.getElem_mem hdl)).2
 refine ⟨⟨by rw [List.length_set]; exact h.len, fun x hx => ?_, fun x hx => ?_, ?_⟩, hneg, by omega, ?_⟩
 ·rw [getD_set hil]
  rcases List.mem_append.1 hx with hx | hx
  ·obtain ⟨a, b, c⟩ := h.inq x hx
   refine ⟨a, b, ?_⟩
   split
   ·omega
   ·exact c
  ·obtain rfl : x = n := by simpa using hx
   rw [if_pos rfl]
   exact ⟨hn.1, hn.2, by omega⟩
 ·rcases List.mem_or_eq_of_mem_set hx with hx | rfl
  ·have := h.val x hx
   omega
  ·omega
 ·rw [List.length_append, List.length_singleton]
  have := h.room
  omega
 ·rw [getD_set hil]
  split <;> omega
theorem fold_le {nh : Nat} {d : Int} : ∀ (ns : List Int) (out q : List Int), (∀ x ∈ ns, 0 ≤ x ∧ x < (nh : Int)) → Small nh out q → (0 ≤ d ∧ d < nh ∧ 0 ≤ out.getD d.toNat 0) → (ns.foldl (see1 d) (out, q)).2.length + 2 * neg (ns.foldl (see1 d) (out, q)).1 ≤ q.length + 2 * neg out := by
 intro ns
 induction ns with
 | nil => intro out q _ _ _; exact Nat.le_refl _
 | cons n ns ih =>
  intro out q hn hs hd
  rw [List.foldl_cons]
  by_cases hlt : out.getD n.toNat 0 < 0
  ·have e : see1 d (out, q) n = (out.set n.toNat (out.getD d.toNat 0 + 1), q ++ [n]) := by unfold see1; rw [if_pos hlt]
   obtain ⟨h1, h2, h3, h4⟩ := hs.see (hn n List.mem_cons_self) hd hlt
   rw [e]
   have := ih _ _ (fun x hx => hn x (List.mem_cons_of_mem _ hx)) h1 ⟨hd.1, hd.2.1, h4⟩
   rw [List.length_append, List.length_singleton] at this
   omega
  ·have e : see1 d (out, q) n = (out, q) := by unfold see1; rw [if_neg hlt]
   rw [e]
   exact ih _ _ (fun x hx => hn x (List.mem_cons_of_mem _ hx)) hs hd
structure At115 (w : World) (nh gO gC : Nat) (out q : List Int) (V : World) : Prop where
 old : Below w.heap.size w V
 row : V.heap[gO]? = some (.cells (nums .i64 out).toArray 3 (0, 0))
 chan : ∃ s r, V.heap[gC]? = some (.chan nh (nums .i64 q).toArray false s r false)
section
variable {cs : List Frame} {Y : Frame → World → Prop} {K : List Item} {w : World} {L nh gO gC : Nat}
theorem in115 (hgO : w.heap.size ≤ gO) (hgC : w.heap.size ≤ gC) (hne : gO ≠ gC) (hnh : nh ≤ 6) (A : Option Addr) (c : Nat) (ns : List Int) (hns : ∀ x ∈ ns, 0 ≤ x ∧ x < (nh : Int)) (hnl : ns.length ≤ 1000) (d : Int) (s0 : List Int × List Int)
  (hend : ∀ t1 t2 t3 t4 t8 t9 xA jA qO jK jY qL qY jL jV qJ jH qB xB qE jX qF qW jI jP qQ qZ qH qR jN jZ jR qM qS qA jU qX qP xE xD xC jC jO jD qC jS qD qT qG qV jW qK jB jE qI jF qU jG jM qN jT jQ jJ V out q, ns.foldl (see1 d) s0 = (out, q) → Small nh out q → At115 w nh gO gC out q V → To Try.prog cs Y ((baseN 115).at ({ tmps := #[ptr L, t1, t2, t3, t4, .slice (some ⟨gO, 0, none⟩) nh nh, .chan (some gC), .int .i64 ((q.length : Int) + 1), t8, t9, xA, jA, qO, jK, jY, qL, qY, jL, jV, qJ, jH, qB, xB, qE, jX, qF, qW, jI, jP, qQ, qZ, qH, qR, jN, jZ, jR, qM, qS, qA, jU, qX, qP, xE, xD, xC, jC, jO, jD, qC, jS, qD, qT, qG, qV, jW, qK, jB, jE, qI, jF, qU, jG, jM, qN, jT, jQ, jJ], defers := [] } : Act) K) V) :
  ∀ (r j : Nat), j + r = ns.length → ∀ t1 t2 t3 t4 t9 xA jA qO jK jY qL qY jL jV qJ jH qB xB qE jX qF qW jI jP qQ qZ qH qR jN jZ jR qM qS qA jU qX qP jC jO jD qC jS qD qT qG qV jW qK jB jE qI jF qU jG jM qN jT jQ jJ V out q, (ns.take j).foldl (see1 d) s0 = (out, q) → Small nh out q → (0 ≤ d ∧ d < nh ∧ 0 ≤ out.getD d.toNat 0) → At115 w nh gO gC out q V → (∀ (j : Nat) (x : Int), ns[j]? = some x → ∃ ad, A = some ad ∧ V.cell? (ad.add j) = some (.int .i64 x) ∧ (ad.block ≠ gO ∧ ad.block ≠ gC)) →
   To Try.prog cs Y ((baseN 115).at ({ tmps := #[ptr L, t1, t2, t3, t4, .slice (some ⟨gO, 0, none⟩) nh nh, .chan (some gC), .int .i64 ((q.length : Int) + 1), .int .i64 d, t9, xA, jA, qO, jK, jY, qL, qY, jL, jV, qJ, jH, qB, xB, qE, jX, qF, qW, jI, jP, qQ, qZ, qH, qR, jN, jZ, jR, qM, qS, qA, jU, qX, qP, .slice A ns.length c, .int .i64 ns.length, .int .i64 j, jC, jO, jD, qC, jS, qD, qT, qG, qV, jW, qK, jB, jE, qI, jF, qU, jG, jM, qN, jT, jQ, jJ], defers := [] } : Act) (.code l115_1 :: .inLoop l115_1 :: .inBlock 2 :: K)) V := by
 intro r
 dsimp only at hend ⊢
 induction r with
 | zero =>
  intro j hj t1 t2 t3 t4 t9 xA jA qO jK jY qL qY jL jV qJ jH qB xB qE jX qF qW jI jP qQ qZ qH qR jN jZ jR qM qS qA jU qX qP jC jO jD qC jS qD qT qG qV jW qK jB jE qI jF qU jG jM qN jT jQ jJ V out q hs hsm hd hV hA
  obtain rfl : j = ns.length := by omega
  have hlt : ¬ ((ns.length : Int) < (ns.length : Int)) := by omega
  refine To.seq (To.code fun Kc hKc => ?_)
  unfold c115_10
  go_wp2
  refine hKc _ _ (To.seq (To.no rfl (To.exit rfl ?_)))
  rw [List.take_length] at hs
  exact hend _ _ _ _ _ _ _ _ _ _ _ _ _ _ _ _ _ _ _ _ _ _ _ _ _ _ _ _ _ _ _ _ _ _ _ _ _ _ _ _ _ _ _ _ _ _ _ _ _ _ _ _ _ _ _ _ _ _ _ _ _ _ _ V out q hs hsm hV
 | succ r ih =>
  intro j hj t1 t2 t3 t4 t9 xA jA qO jK jY qL qY jL jV qJ jH qB xB qE jX qF qW jI jP qQ qZ qH qR jN jZ jR qM qS qA jU qX qP jC jO jD qC jS qD qT qG qV jW qK jB jE qI jF qU jG jM qN jT jQ jJ V out q hs hsm hd hV hA
  try dsimp only at ih
  replace ih : Hid _ := ih
  have HE : Hid _ := hend
  clear hend
  have hjl : j < ns.length := by omega
  have hlt : (j : Int) < (ns.length : Int) := by omega
  obtain ⟨n, hn⟩ : ∃ n, ns[j]? = some n := ⟨_, List.getElem?_eq_getElem hjl⟩
  have hnv := hns n (List.mem_of_getElem? hn)
  obtain ⟨ad, e, hcn, _, _⟩ := hA j n hn
  subst e
  have hfold : (ns.take (j + 1)).foldl (see1 d) s0 = see1 d (out, q) n := by
   rw [List.take_add_one, hn, List.foldl_append, hs]; rfl
  obtain ⟨u, rfl⟩ := Int.eq_ofNat_of_zero_le hnv.1
  obtain ⟨dd, rfl⟩ := Int.eq_ofNat_of_zero_le hd.1
  have hul : (u : Int) < (nh : Int) := hnv.2
  have hdl : (dd : Int) < (nh : Int) := hd.2.1
  have hlen := hsm.len
  have hgetu : (nums .i64 out)[u]? = some (.int .i64 (out.getD u 0)) := by
   have : u < out.length := by omega
   simp [nums, List.getD_eq_getElem?_getD, this]
  have hgetd : (nums .i64 out)[dd]? = some (.int .i64 (out.getD dd 0)) := by
   have : dd < out.length := by omega
   simp [nums, List.getD_eq_getElem?_getD, this]
  have cu : V.cell? ⟨gO, u, none⟩ = some (.int .i64 (out.getD u 0)) := by rw [blk_cell hV.row]; simpa using hgetu
  have cd : V.cell? ⟨gO, dd, none⟩ = some (.int .i64 (out.getD dd 0)) := by rw [blk_cell hV.row]; simpa using hgetd
  have cf := blk_frozen hV.row u
  have hsee := fun h => Small.see hsm ⟨hnv.1, hnv.2⟩ hd h
  have hs1 : see1 (dd : Int) (out, q) (u : Int) = if out.getD u 0 < 0 then (out.set u (out.getD dd 0 + 1), q ++ [(u : Int)]) else (out, q) := rfl
  have hql : q.length ≤ nh := by have := hsm.room; omega
  simp only [Int.toNat_natCast] at hsee hd
  have HV : Hid _ := hV
  have HA : Hid _ := hA
  have HS : Hid _ := hsm
  have HS2 : Hid _ := hsee
  clear hV hA hsm hsee
  refine To.seq (To.code fun Kc hKc => ?_)
  unfold c115_10
  go_wp2
  refine hKc _ _ (To.seq (To.yes rfl (To.skip (To.seq (To.block (To.seq (To.code fun Kc hKc => ?_)))))))
  unfold c115_11
  go_wp2
  refine hKc _ _ (To.seq (To.code fun Kc hKc => ?_))
  generalize hx : out.getD u 0 = x at hs1 cu HS2
  generalize hxd : out.getD dd 0 = xd at hs1 cd HS2 hd
  unfold c115_12
  go_wp2
  by_cases hneg : x < 0
  ·obtain ⟨S1, S2, S3, S4⟩ := HS2.out hneg
   have hxd0 : 0 ≤ xd := hd.2.2
   have hHS1 : Hid _ := S1
   have hHS4 : Hid _ := S4
   clear S1 S4
   refine hKc _ _ (To.yes (show Value.bool (decide (x < 0)) = .bool true by rw [decide_eq_true hneg]) (To.seq (To.code fun Kc hKc => ?_)))
   unfold c115_13
   go_wp2
   refine hKc _ _ (To.seq (To.region rfl (To.op (o := ⟨some 61, .move (.tmp 6), 174, "list.go:235", #[], none⟩) rfl rfl fun Kc hKc => ?_)))
   go_simp
   refine hKc _ _ (To.op (o := ⟨some 62, .move (.tmp 10), 3, "list.go:235", #[], none⟩) rfl rfl fun Kc hKc => ?_)
   go_simp
   have hO2 := blk_set HV.out.row u (.int .i64 (xd + 1))
   obtain ⟨s, r', hC⟩ := HV.out.chan
   have hC2 : (V.setCell ⟨gO, u, none⟩ (.int .i64 (xd + 1))).heap[gC]? = some (.chan nh (nums .i64 q).toArray false s r' false) := (Below.heap_setCell V _ _ gC (fun e => hne e.symm)).trans hC
   have hroom : (nums .i64 q).toArray.size < nh := by
    have := HS.out.room
    have : (nums .i64 q).toArray.size = q.length := by simp [nums]
    omega
   refine hKc _ _ (To.send (o := ⟨none, .send (.tmp 61) (.tmp 62), 0, "list.go:235", #[⟨0, .data⟩, ⟨1, .data⟩], none⟩) (z' := .tuple #[]) (v := .int .i64 (u : Int)) (c := gC) (by decide) rfl rfl ?_ hC2 hroom ?_)
   ·unfold execOp
    simp [go_sem, scase]
   have hbO : Below w.heap.size w (V.setCell ⟨gO, u, none⟩ (.int .i64 (xd + 1))) := HV.out.old.setCell hgO _
   have hbC := below_setChan hbO hgC nh ((nums .i64 q).toArray.push (.int .i64 (u : Int))) false (s + 1) r' false
   have hrowN : ((V.setCell ⟨gO, u, none⟩ (.int .i64 (xd + 1))).setChan gC nh ((nums .i64 q).toArray.push (.int .i64 (u : Int))) false (s + 1) r' false).heap[gO]? = some (.cells (nums .i64 (out.set u (xd + 1))).toArray 3 (0, 0)) := by
    simp only [World.setChan]
    rw [Array.getElem?_setIfInBounds_ne (fun e => hne e.symm), hO2]
    simp [nums, List.map_set]
   have hchN : ((V.setCell ⟨gO, u, none⟩ (.int .i64 (xd + 1))).setChan gC nh ((nums .i64 q).toArray.push (.int .i64 (u : Int))) false (s + 1) r' false).heap[gC]? = some (.chan nh (nums .i64 (q ++ [(u : Int)])).toArray false (s + 1) r' false) := by
    rw [heap_setChan _ _ _ _ _ _ _ _ (blk_lt hC2)]
    simp [nums]
   have hcells : ∀ a v, V.cell? a = some v → a.block ≠ gO → a.block ≠ gC → ((V.setCell ⟨gO, u, none⟩ (.int .i64 (xd + 1))).setChan gC nh ((nums .i64 q).toArray.push (.int .i64 (u : Int))) false (s + 1) r' false).cell? a = some v := fun a v ha h1 h2 => by
    have e1 : ((V.setCell ⟨gO, u, none⟩ (.int .i64 (xd + 1))).setChan gC nh ((nums .i64 q).toArray.push (.int .i64 (u : Int))) false (s + 1) r' false).heap[a.block]? = V.heap[a.block]? := by
     simp only [World.setChan]
     rw [Array.getElem?_setIfInBounds_ne (fun e => h2 e.symm), Below.heap_setCell V _ _ _ h1]
    unfold World.cell? at ha ⊢
    rw [e1]
    exact ha
   generalize (V.setCell ⟨gO, u, none⟩ (.int .i64 (xd + 1))).setChan gC nh ((nums .i64 q).toArray.push (.int .i64 (u : Int))) false (s + 1) r' false = V2 at hbC hrowN hchN hcells ⊢
   have hAt : At115 w nh gO gC (out.set u (xd + 1)) (q ++ [(u : Int)]) V2 := ⟨hbC, hrowN, _, _, hchN⟩
   have hA2 : Hid (∀ (j : Nat) (x : Int), ns[j]? = some x → ∃ ad', some ad = some ad' ∧ V2.cell? (ad'.add j) = some (.int .i64 x) ∧ (ad'.block ≠ gO ∧ ad'.block ≠ gC)) := fun j x hx => by
    obtain ⟨ad', e, h1, h2, h3⟩ := HA.out j x hx
    exact ⟨ad', e, hcells _ _ h1 (by rw [add_block]; exact h2) (by rw [add_block]; exact h3), h2, h3⟩
   have HAt : Hid _ := hAt
   clear hAt hcells hchN hrowN hbC hbO hC2 hC hO2 HV HA cu cd cf
   refine To.regionEnd (To.code fun Kc hKc => ?_)
   have hql7 : q.length ≤ 6 := by omega
   unfold c115_15
   go_wp2
   refine hKc _ _ (To.inBlock (To.code fun Kc hKc => ?_))
   unfold c115_16
   go_wp2
   refine hKc _ _ (To.inLoop ?_)
   rw [if_pos hneg] at hs1
   rw [show ((j : Int) + 1) = ((j + 1 : Nat) : Int) by omega, show ((q.length : Int) + 1 + 1) = (((q ++ [(u : Int)]).length : Int) + 1) by rw [List.length_append, List.length_singleton]; omega]
   refine ih.out (j + 1) (by omega) _ _ _ _ _ _ _ _ _ _ _ _ _ _ _ _ _ _ _ _ _ _ _ _ _ _ _ _ _ _ _ _ _ _ _ _ _ _ _ _ _ _ _ _ _ _ _ _ _ _ _ _ _ _ _ _ _ _ _ V2 (out.set u (xd + 1)) (q ++ [(u : Int)]) (by rw [hfold, hs1]) hHS1.out ⟨by omega, by omega, ?_⟩ HAt.out hA2.out
   rw [Int.toNat_natCast]
   exact hHS4.out
  ·refine hKc _ _ (To.no (show Value.bool (decide (x < 0)) = .bool false by rw [decide_eq_false hneg]) (To.skip (To.inBlock (To.code fun Kc hKc => ?_))))
   unfold c115_16
   go_wp2
   refine hKc _ _ (To.inLoop ?_)
   rw [show ((j : Int) + 1) = ((j + 1 : Nat) : Int) by omega]
   rw [if_neg (show ¬ x < 0 by omega)] at hs1
   refine ih.out (j + 1) (by omega) _ _ _ _ _ _ _ _ _ _ _ _ _ _ _ _ _ _ _ _ _ _ _ _ _ _ _ _ _ _ _ _ _ _ _ _ _ _ _ _ _ _ _ _ _ _ _ _ _ _ _ _ _ _ _ _ _ _ _ V out q (by rw [hfold, hs1]) HS.out ⟨by omega, by omega, ?_⟩ HV.out HA.out
   rw [Int.toNat_natCast, hxd]
   exact hd.2.2
def Inside (nh : Nat) (hd : List S68) : Prop := ∀ i : Nat, i < nh → (∀ x ∈ nextsOf (rd_T68 hd i), 0 ≤ x ∧ x < (nh : Int)) ∧ (rd_T68 hd i).f3.length ≤ 1000
set_option maxHeartbeats 1000000 in
theorem out115 (hgO : w.heap.size ≤ gO) (hgC : w.heap.size ≤ gC) (hne : gO ≠ gC) (hnh : nh ≤ 6) (hd : List S68) (hin : Inside nh hd) (Ak : Option Addr) (ck : Nat) (Ac Ah : Option Addr) (nc cc nh' ch : Nat) (va : Value) (hL : w.heap[L]? = some (.cells (listV Ac nc cc Ah nh' ch va (.slice Ak nh ck)) 173 (0, 0))) (hK : KindsAt w Ak nh hd)
  (res : List Int) (hend : ∀ t0 t1 t2 t3 t4 t6 t7 t8 t9 xA jA qO jK jY qL qY jL jV qJ jH qB xB qE jX qF qW jI jP qQ qZ qH qR jN jZ jR qM qS qA jU qX qP xE xD xC jC jO jD qC jS qD qT qG qV jW qK jB jE qI jF qU jG jM qN jT jQ jJ V, At115 w nh gO gC res [] V → Small nh res [] → To Try.prog cs Y ((baseN 115).at ({ tmps := #[t0, t1, t2, t3, t4, .slice (some ⟨gO, 0, none⟩) nh nh, t6, t7, t8, t9, xA, jA, qO, jK, jY, qL, qY, jL, jV, qJ, jH, qB, xB, qE, jX, qF, qW, jI, jP, qQ, qZ, qH, qR, jN, jZ, jR, qM, qS, qA, jU, qX, qP, xE, xD, xC, jC, jO, jD, qC, jS, qD, qT, qG, qV, jW, qK, jB, jE, qI, jF, qU, jG, jM, qN, jT, jQ, jJ], defers := [] } : Act) K) V) :
  ∀ (f : Nat) t1 t2 t3 t4 t8 t9 xA jA qO jK jY qL qY jL jV qJ jH qB xB qE jX qF qW jI jP qQ qZ qH qR jN jZ jR qM qS qA jU qX qP xE xD xC jC jO jD qC jS qD qT qG qV jW qK jB jE qI jF qU jG jM qN jT jQ jJ V out q, q.length + 2 * neg out ≤ f → bfs hd f (out, q) = res → Small nh out q → At115 w nh gO gC out q V →
   To Try.prog cs Y ((baseN 115).at ({ tmps := #[ptr L, t1, t2, t3, t4, .slice (some ⟨gO, 0, none⟩) nh nh, .chan (some gC), .int .i64 (q.length : Int), t8, t9, xA, jA, qO, jK, jY, qL, qY, jL, jV, qJ, jH, qB, xB, qE, jX, qF, qW, jI, jP, qQ, qZ, qH, qR, jN, jZ, jR, qM, qS, qA, jU, qX, qP, xE, xD, xC, jC, jO, jD, qC, jS, qD, qT, qG, qV, jW, qK, jB, jE, qI, jF, qU, jG, jM, qN, jT, jQ, jJ], defers := [] } : Act) (.code l115_0 :: .inLoop l115_0 :: .inBlock 0 :: K)) V := by
 intro f
 dsimp only at hend ⊢
 have hstop : ∀ t1 t2 t3 t4 t8 t9 xA jA qO jK jY qL qY jL jV qJ jH qB xB qE jX qF qW jI jP qQ qZ qH qR jN jZ jR qM qS qA jU qX qP xE xD xC jC jO jD qC jS qD qT qG qV jW qK jB jE qI jF qU jG jM qN jT jQ jJ V, At115 w nh gO gC res [] V → Small nh res [] → To Try.prog cs Y ((baseN 115).at ({ tmps := #[ptr L, t1, t2, t3, t4, .slice (some ⟨gO, 0, none⟩) nh nh, .chan (some gC), .int .i64 0, t8, t9, xA, jA, qO, jK, jY, qL, qY, jL, jV, qJ, jH, qB, xB, qE, jX, qF, qW, jI, jP, qQ, qZ, qH, qR, jN, jZ, jR, qM, qS, qA, jU, qX, qP, xE, xD, xC, jC, jO, jD, qC, jS, qD, qT, qG, qV, jW, qK, jB, jE, qI, jF, qU, jG, jM, qN, jT, jQ, jJ], defers := [] } : Act) (.code l115_0 :: .inLoop l115_0 :: .inBlock 0 :: K)) V := by
  intro t1 t2 t3 t4 t8 t9 xA jA qO jK jY qL qY jL jV qJ jH qB xB qE jX qF qW jI jP qQ qZ qH qR jN jZ jR qM qS qA jU qX qP xE xD xC jC jO jD qC jS qD qT qG qV jW qK jB jE qI jF qU jG jM qN jT jQ jJ V hV hS
  have HV : Hid _ := hV
  have HS : Hid _ := hS
  clear hV hS
  refine To.seq (To.seq (To.code fun Kc hKc => ?_))
  unfold c115_6
  go_wp2
  exact hKc _ _ (To.no rfl (To.exit rfl (hend _ _ _ _ _ _ _ _ _ _ _ _ _ _ _ _ _ _ _ _ _ _ _ _ _ _ _ _ _ _ _ _ _ _ _ _ _ _ _ _ _ _ _ _ _ _ _ _ _ _ _ _ _ _ _ _ _ _ _ _ _ _ _ _ _ _ V HV.out HS.out)))
 dsimp only at hstop
 have HST : Hid _ := hstop
 clear hstop hend
 induction f with
 | zero =>
  intro t1 t2 t3 t4 t8 t9 xA jA qO jK jY qL qY jL jV qJ jH qB xB qE jX qF qW jI jP qQ qZ qH qR jN jZ jR qM qS qA jU qX qP xE xD xC jC jO jD qC jS qD qT qG qV jW qK jB jE qI jF qU jG jM qN jT jQ jJ V out q hf hb hS hV
  obtain rfl : q = [] := List.eq_nil_of_length_eq_zero (by omega)
  obtain rfl : out = res := hb
  exact HST.out _ _ _ _ _ _ _ _ _ _ _ _ _ _ _ _ _ _ _ _ _ _ _ _ _ _ _ _ _ _ _ _ _ _ _ _ _ _ _ _ _ _ _ _ _ _ _ _ _ _ _ _ _ _ _ _ _ _ _ _ _ _ _ V hV hS
 | succ f ih =>
  intro t1 t2 t3 t4 t8 t9 xA jA qO jK jY qL qY jL jV qJ jH qB xB qE jX qF qW jI jP qQ qZ qH qR jN jZ jR qM qS qA jU qX qP xE xD xC jC jO jD qC jS qD qT qG qV jW qK jB jE qI jF qU jG jM qN jT jQ jJ V out q hf hb hS hV
  try dsimp only at ih
  replace ih : Hid _ := ih
  cases q with
  | nil =>
   obtain rfl : out = res := hb
   exact HST.out _ _ _ _ _ _ _ _ _ _ _ _ _ _ _ _ _ _ _ _ _ _ _ _ _ _ _ _ _ _ _ _ _ _ _ _ _ _ _ _ _ _ _ _ _ _ _ _ _ _ _ _ _ _ _ _ _ _ _ _ _ _ _ V hV hS
  | cons d q =>
   obtain ⟨hd0, hd1, hd2⟩ := hS.inq d List.mem_cons_self
   obtain ⟨dd, rfl⟩ := Int.eq_ofNat_of_zero_le hd0
   have hqp : (0 : Int) < ((((dd : Int) :: q).length : Nat) : Int) := by simp
   have hql : q.length + 1 ≤ nh := by have := hS.room; simp at this; omega
   have hdl : (dd : Int) < (nh : Int) := hd1
   have HV : Hid _ := hV
   have HS : Hid _ := hS
   clear hV hS
   refine To.seq (To.seq (To.code fun Kc hKc => ?_))
   unfold c115_6
   go_wp2
   refine hKc _ _ (To.yes (by rfl) (To.skip (To.seq (To.block (To.seq (To.region rfl (To.op (o := ⟨some 33, .move (.tmp 6), 174, "list.go:231", #[], none⟩) rfl rfl fun Kc hKc => ?_)))))))
   go_simp
   obtain ⟨s, r', hC⟩ := HV.out.chan
   refine hKc _ _ (To.recv (o := ⟨some 34, .recv 174 (.tmp 33) false, 3, "list.go:231", #[⟨0, .data⟩], none⟩) (z := .int .i64 0) (c := gC) (by decide) rfl rfl ?_ hC (by simp [nums]) ?_)
   ·unfold execOp
    simp [go_sem, rcase]
   have hb1 := below_setChan HV.out.old hgC nh ((nums .i64 ((dd : Int) :: q)).toArray.extract 1 (nums .i64 ((dd : Int) :: q)).toArray.size) false s (r' + 1) false
   have hC1 := heap_setChan V gC nh ((nums .i64 ((dd : Int) :: q)).toArray.extract 1 (nums .i64 ((dd : Int) :: q)).toArray.size) false s (r' + 1) false (blk_lt hC)
   have hR1 : (V.setChan gC nh ((nums .i64 ((dd : Int) :: q)).toArray.extract 1 (nums .i64 ((dd : Int) :: q)).toArray.size) false s (r' + 1) false).heap[gO]? = some (.cells (nums .i64 out).toArray 3 (0, 0)) := by
    simp only [World.setChan]
    rw [Array.getElem?_setIfInBounds_ne (fun e => hne e.symm)]
    exact HV.out.row
   have hbuf : (nums .i64 ((dd : Int) :: q)).toArray.extract 1 (nums .i64 ((dd : Int) :: q)).toArray.size = (nums .i64 q).toArray := by
    simp [nums]
    exact List.take_of_length_le (by simp)
   rw [hbuf] at hb1 hC1 hR1 ⊢
   have hget0 : (nums .i64 ((dd : Int) :: q)).toArray.getD 0 undef = .int .i64 (dd : Int) := by simp [nums]
   rw [hget0]
   generalize V.setChan gC nh (nums .i64 q).toArray false s (r' + 1) false = V1 at hb1 hC1 hR1 ⊢
   clear HV hC hbuf hget0
   try simp only [pt]
   refine To.op (o := ⟨some 8, .assign (.tmp 34), 3, "list.go:231", #[⟨1, .data⟩, ⟨1, .chain⟩, ⟨0, .phase⟩, ⟨1, .phase⟩], none⟩) rfl rfl fun Kc hKc => ?_
   go_simp
   refine hKc _ _ (To.regionEnd (To.seq (To.code fun Kc hKc => ?_)))
   have hL1 := (hb1.block L (blk_lt hL)).trans hL
   have l3 := blk_cell hL1 3
   obtain ⟨ad, A, c, e, hk', _, hr'⟩ := hK dd (by omega)
   subst e
   have hk := (hb1.cell (World.block_lt_of_cell? w _ hk')).trans hk'
   have hr := Kd.C_below hr' hb1
   obtain ⟨hin1, hin2⟩ := hin dd (by omega)
   have hPb : ∀ b, V1.heap.size ≤ b → b ≠ gO ∧ b ≠ gC := fun b hb => by
    have h1 := blk_lt hR1
    have h2 := blk_lt hC1
    exact ⟨by omega, by omega⟩
   have hPA : ∀ ad, A = some ad → 0 < (rd_T68 hd dd).f3.length → ad.block ≠ gO ∧ ad.block ≠ gC := fun ad e hl => by
    subst e
    obtain ⟨ad2, e2, hc2⟩ := Kd.at_int hr' 0 (by omega) (by omega)
    injection e2 with e2
    subst e2
    have := World.block_lt_of_cell? w _ hc2
    rw [add_block] at this
    exact ⟨by omega, by omega⟩
   generalize hvis : rd_T68 hd (dd : Int) = x at hk' hr' hk hr hin1 hin2 hPA
   have hm165 : ∀ (z : Int) (W : World), (method 316 187 (.agg #[.int .i64 z]) "wayzgoose/trade.next").run Try.prog W = .ok (165, .agg #[.int .i64 z]) W := fun z W => by kernel_rfl
   have hm166 : ∀ (z : Int) (A : Option Addr) (n c : Nat) (W : World), (method 316 189 (.agg #[.int .i64 z, .slice A n c]) "wayzgoose/trade.next").run Try.prog W = .ok (166, .agg #[.int .i64 z, .slice A n c]) W := fun z A n c W => by kernel_rfl
   have hm167 : ∀ (A : Option Addr) (n c : Nat) (W : World), (method 316 191 (.agg #[.slice A n c]) "wayzgoose/trade.next").run Try.prog W = .ok (167, .agg #[.slice A n c]) W := fun A n c W => by kernel_rfl
   clear hk'
   have hnl : (nextsOf x).length ≤ 1000 := by
    unfold nextsOf
    split
    ·simp
    ·exact hin2
   have hX : ∀ t1 t2 t3 t4 t9 xA jA qO jK jY qL qY jL jV qJ jH qB xB qE jX qF qW jI jP qQ qZ qH qR jN jZ jR qM qS qA jU qX qP jC jO jD qC jS qD qT qG qV jW qK jB jE qI jF qU jG jM qN jT jQ jJ (A2 : Option Addr) (c2 : Nat) V2, Below V1.heap.size V1 V2 → (∀ (j : Nat) (z : Int), (nextsOf x)[j]? = some z → ∃ ad, A2 = some ad ∧ V2.cell? (ad.add j) = some (.int .i64 z) ∧ (ad.block ≠ gO ∧ ad.block ≠ gC)) →
     To Try.prog cs Y ((baseN 115).at ({ tmps := #[ptr L, t1, t2, t3, t4, .slice (some ⟨gO, 0, none⟩) nh nh, .chan (some gC), .int .i64 ((q.length : Int) + 1), .int .i64 (dd : Int), t9, xA, jA, qO, jK, jY, qL, qY, jL, jV, qJ, jH, qB, xB, qE, jX, qF, qW, jI, jP, qQ, qZ, qH, qR, jN, jZ, jR, qM, qS, qA, jU, qX, qP, .slice A2 (nextsOf x).length c2, .int .i64 (nextsOf x).length, .int .i64 0, jC, jO, jD, qC, jS, qD, qT, qG, qV, jW, qK, jB, jE, qI, jF, qU, jG, jM, qN, jT, jQ, jJ], defers := [] } : Act) (.code (.block 2 (.loop l115_1)) :: .inBlock 1 :: .code (.region 7 c115_7 false) :: .inLoop l115_0 :: .inBlock 0 :: K)) V2 := by
    intro t1 t2 t3 t4 t9 xA jA qO jK jY qL qY jL jV qJ jH qB xB qE jX qF qW jI jP qQ qZ qH qR jN jZ jR qM qS qA jU qX qP jC jO jD qC jS qD qT qG qV jW qK jB jE qI jF qU jG jM qN jT jQ jJ A2 c2 V2 hb2 hN
    have hS := HS.out
    have hAt : At115 w nh gO gC out q V2 := ⟨hb1.trans (hb2.mono hb1.size), (hb2.block gO (blk_lt hR1)).trans hR1, s, r' + 1, (hb2.block gC (blk_lt hC1)).trans hC1⟩
    have hS' : Small nh out q := ⟨hS.len, fun z hz => hS.inq z (List.mem_cons_of_mem _ hz), hS.val, by have := hS.room; simp at this; omega⟩
    refine To.block (To.loop ?_)
    refine in115 hgO hgC hne hnh A2 c2 (nextsOf x) hin1 hnl (dd : Int) (out, q) ?_ (nextsOf x).length 0 (by omega) _ _ _ _ _ _ _ _ _ _ _ _ _ _ _ _ _ _ _ _ _ _ _ _ _ _ _ _ _ _ _ _ _ _ _ _ _ _ _ _ _ _ _ _ _ _ _ _ _ _ _ _ _ _ _ _ _ _ _ V2 out q rfl hS' ⟨hd0, hd1, hd2⟩ hAt hN
    intro t1 t2 t3 t4 t8 t9 xA jA qO jK jY qL qY jL jV qJ jH qB xB qE jX qF qW jI jP qQ qZ qH qR jN jZ jR qM qS qA jU qX qP xE xD xC jC jO jD qC jS qD qT qG qV jW qK jB jE qI jF qU jG jM qN jT jQ jJ V3 out3 q3 hfold hS3 hV3
    have hle := fold_le (nextsOf x) out q hin1 hS' ⟨hd0, hd1, hd2⟩
    rw [hfold] at hle
    have hf' : q3.length + 2 * neg out3 ≤ f := by simp at hf hle; omega
    have hb' : bfs hd f (out3, q3) = res := by
     have e1 : bfs hd (f + 1) (out, (dd : Int) :: q) = bfs hd f (visit hd (dd : Int) (out, q)) := rfl
     have e2 : visit hd (dd : Int) (out, q) = (out3, q3) := by
      unfold visit
      rw [show rd_T68 hd (dd : Int) = x from hvis]
      exact hfold
     rw [← e2, ← e1]
     exact hb
    have hq3 : q3.length ≤ 6 := by have := hS3.room; omega
    have hw3 : IntKind.i64.wrap (q3.length : Int) = (q3.length : Int) := by rw [i64w]; unfold wrap64; omega
    have HS3 : Hid _ := hS3
    have HV3 : Hid _ := hV3
    clear hS3 hV3 hfold hN hAt hS' hS
    refine To.inBlock (To.code fun Kc hKc => ?_)
    unfold c115_7
    go_wp2
    refine hKc _ _ (To.inLoop ?_)
    exact ih.out _ _ _ _ _ _ _ _ _ _ _ _ _ _ _ _ _ _ _ _ _ _ _ _ _ _ _ _ _ _ _ _ _ _ _ _ _ _ _ _ _ _ _ _ _ _ _ _ _ _ _ _ _ _ _ _ _ _ _ _ _ _ _ V3 out3 q3 hf' hb' HS3.out HV3.out
   have HX : Hid _ := hX
   clear hX
   by_cases a2 : x.f2 ≠ -1
   ·have ek : kindV x A c = .iface 187 (.agg #[.int .i64 x.f2]) := by simp [kindV, a2]
    rw [ek] at hk
    have en : nextsOf x = [x.f2] := by simp [nextsOf, a2]
    have C1 : Hid _ := calls165 (Pb := fun b => b ≠ gO ∧ b ≠ gC) x.f2 V1 hPb
    unfold c115_9
    go_wp2_with (go_at_call 165; refine Calls.mono C1.out ?_; rintro e V2 ⟨_, rfl, ⟨A2, c2, rfl, hN⟩, hb2⟩; dsimp only)
    rw [en] at HX
    exact hKc _ _ (HX.out _ _ _ _ _ _ _ _ _ _ _ _ _ _ _ _ _ _ _ _ _ _ _ _ _ _ _ _ _ _ _ _ _ _ _ _ _ _ _ _ _ _ _ _ _ _ _ _ _ _ _ _ _ _ _ _ _ _ _ A2 c2 V2 hb2 hN)
   ·have en : nextsOf x = x.f3 := by simp [nextsOf, a2]
    rw [en] at HX
    have a2 : x.f2 = -1 := by simpa using a2
    by_cases a1 : x.f1 ≠ -1
    ·have ek : kindV x A c = .iface 189 (.agg #[.int .i64 x.f1, .slice A x.f3.length c]) := by simp [kindV, a2, a1]
     rw [ek] at hk
     have C1 : Hid _ := calls166 x.f1 x.f3 A c V1 (Pb := fun b => b ≠ gO ∧ b ≠ gC) hr hPA
     unfold c115_9
     go_wp2_with (go_at_call 166; refine Calls.mono C1.out ?_; rintro e V2 ⟨_, rfl, ⟨A2, c2, rfl, hN⟩, hb2⟩; dsimp only)
     exact hKc _ _ (HX.out _ _ _ _ _ _ _ _ _ _ _ _ _ _ _ _ _ _ _ _ _ _ _ _ _ _ _ _ _ _ _ _ _ _ _ _ _ _ _ _ _ _ _ _ _ _ _ _ _ _ _ _ _ _ _ _ _ _ _ A2 c2 V2 hb2 hN)
    ·have ek : kindV x A c = .iface 191 (.agg #[.slice A x.f3.length c]) := by
      have a1 : x.f1 = -1 := by simpa using a1
      simp [kindV, a2, a1]
     rw [ek] at hk
     have C1 : Hid _ := calls167 x.f3 A c V1 (Pb := fun b => b ≠ gO ∧ b ≠ gC) hr hPA
     unfold c115_9
     go_wp2_with (go_at_call 167; refine Calls.mono C1.out ?_; rintro e V2 ⟨_, rfl, ⟨A2, c2, rfl, hN⟩, hb2⟩; dsimp only)
     exact hKc _ _ (HX.out _ _ _ _ _ _ _ _ _ _ _ _ _ _ _ _ _ _ _ _ _ _ _ _ _ _ _ _ _ _ _ _ _ _ _ _ _ _ _ _ _ _ _ _ _ _ _ _ _ _ _ _ _ _ _ _ _ _ _ A2 c2 V2 hb2 hN)
end
noncomputable def c114_0 : Array Oper := (fun {c} (_ : rg Try.f114 0 = some c) => c) rfl
noncomputable def c114_1 : Array Oper := (fun {c} (_ : rg Try.f114 1 = some c) => c) rfl
noncomputable def c114_2 : Array Oper := (fun {c} (_ : rg Try.f114 2 = some c) => c) rfl
noncomputable def c114_3 : Array Oper := (fun {c} (_ : rg Try.f114 3 = some c) => c) rfl
noncomputable def c114_4 : Array Oper := (fun {c} (_ : rg Try.f114 4 = some c) => c) rfl
noncomputable def c114_5 : Array Oper := (fun {c} (_ : rg Try.f114 5 = some c) => c) rfl
noncomputable def c114_6 : Array Oper := (fun {c} (_ : rg Try.f114 6 = some c) => c) rfl
noncomputable def c114_7 : Array Oper := (fun {c} (_ : rg Try.f114 7 = some c) => c) rfl
noncomputable def c114_8 : Array Oper := (fun {c} (_ : rg Try.f114 8 = some c) => c) rfl
noncomputable def c114_9 : Array Oper := (fun {c} (_ : rg Try.f114 9 = some c) => c) rfl
noncomputable def l114_0 : Code := (.seq (.region 5 c114_5 false) (.seq (.cond (Operand.tmp 21) Code.skip (Code.exit 0)) (.seq (.block 1 (.seq (.region 6 c114_6 false) (.seq (.region 7 c114_7 false) (.cond (Operand.tmp 30) (.seq (.region 8 c114_8 false) Code.ret) Code.skip)))) (.region 9 c114_9 false))))
noncomputable def c114_10 : Array Oper := (fun {c} (_ : rg Try.f114 10 = some c) => c) rfl
noncomputable def b114 : Code := (.seq (.region 0 c114_0 false) (.seq (.region 1 c114_1 false) (.seq (.seq (.region 2 c114_2 false) (.cond (Operand.tmp 16) (.seq (.region 3 c114_3 false) Code.ret) Code.skip)) (.seq (.seq (.region 4 c114_4 false) (.block 0 (.loop l114_0))) (.seq (.region 10 c114_10 false) Code.ret)))))
theorem body114 : Try.f114.body = some b114 := by kernel_rfl
noncomputable def c92_0 : Array Oper := (fun {c} (_ : rg Try.f92 0 = some c) => c) rfl
noncomputable def c92_1 : Array Oper := (fun {c} (_ : rg Try.f92 1 = some c) => c) rfl
noncomputable def c92_2 : Array Oper := (fun {c} (_ : rg Try.f92 2 = some c) => c) rfl
noncomputable def c92_3 : Array Oper := (fun {c} (_ : rg Try.f92 3 = some c) => c) rfl
noncomputable def c92_4 : Array Oper := (fun {c} (_ : rg Try.f92 4 = some c) => c) rfl
noncomputable def b92 : Code := (.seq (.region 0 c92_0 false) (.seq (.region 1 c92_1 false) (.seq (.seq (.region 2 c92_2 false) (.cond (Operand.tmp 16) (.seq (.region 3 c92_3 false) Code.ret) Code.skip)) (.seq (.region 4 c92_4 false) Code.ret))))
theorem body92 : Try.f92.body = some b92 := by kernel_rfl
def stepsOf (hd : List S68) (nh h : Nat) : List Int := bfs hd (2 * nh + 1) ((List.replicate nh (-1 : Int)).set h 0, [(h : Int)])
theorem mk174 (n : Nat) (hn : n ≤ 1000) (W : World) : (Instr.makeChan 174 (.int .i64 (n : Int))).run Try.prog W = .ok (.chan (some W.heap.size)) (W.alloc (.chan n #[] false 0 0 false)) := by
 obtain ⟨i, hi, hb⟩ := Option.map_eq_some_iff.1 (show (Try.prog.info? 3).map (fun i => i.bytes) = some 8 by kernel_rfl)
 exact Go.Conc.run_makeChan (w := W) Try.underlying174 hi .i64 n (by omega) (by rw [hb]; omega)
theorem neg_rep (n : Nat) : neg (List.replicate n (-1 : Int)) = n := by simp [neg, List.countP_replicate]
theorem small_start (nh h : Nat) (hh : h < nh) : Small nh ((List.replicate nh (-1 : Int)).set h 0) [(h : Int)] ∧ neg ((List.replicate nh (-1 : Int)).set h 0) + 1 = nh := by
 have hl : h < (List.replicate nh (-1 : Int)).length := by simpa using hh
 have hn := neg_set (v := 0) hl (by rw [List.getD_eq_getElem?_getD, List.getElem?_replicate, if_pos hh]; decide) (by decide)
 rw [neg_rep] at hn
 refine ⟨⟨by simp, fun x hx => ?_, fun x hx => ?_, by simp; omega⟩, hn⟩
 ·obtain rfl : x = h := by simpa using hx
  refine ⟨by omega, by omega, ?_⟩
  rw [getD_set hl, if_pos (by simp)]
  exact Int.le_refl _
 ·rcases List.mem_or_eq_of_mem_set hx with hx | rfl
  ·have := List.eq_of_mem_replicate hx
   omega
  ·omega
theorem calls115 {w : World} {L nh : Nat} (hnh : nh ≤ 6) (hd : List S68) (hin : Inside nh hd) (Ak : Option Addr) (ck : Nat) (Ac Ah : Option Addr) (nc cc nh' ch : Nat) (va : Value) (hL : w.heap[L]? = some (.cells (listV Ac nc cc Ah nh' ch va (.slice Ak nh ck)) 173 (0, 0))) (hK : KindsAt w Ak nh hd) (h : Nat) (hh : h < nh) :
  Calls Try.prog 115 #[ptr L, .int .i64 (h : Int)] w fun e w' => ∃ v, e = .returned v ∧ (∃ g, v = .slice (some ⟨g, 0, none⟩) nh nh ∧ w'.heap[g]? = some (.cells (nums .i64 (stepsOf hd nh h)).toArray 3 (0, 0)) ∧ (stepsOf hd nh h).length = nh) ∧ Below w.heap.size w w' := by
 refine calls_of_to (tmps := #[ptr L, .int .i64 (h : Int), undef, undef, undef, undef, undef, undef, undef, undef, undef, undef, undef, undef, undef, undef, undef, undef, undef, undef, undef, undef, undef, undef, undef, undef, undef, undef, undef, undef, undef, undef, undef, undef, undef, undef, undef, undef, undef, undef, undef, undef, undef, undef, undef, undef, undef, undef, undef, undef, undef, undef, undef, undef, undef, undef, undef, undef, undef, undef, undef, undef, undef, undef, undef, undef, undef]) Try.func115 body115 (by kernel_rfl) fun cs => ?_
 unfold b115
 refine To.seq (To.code fun Kc hKc => ?_)
 unfold c115_0
 go_wp2
 refine hKc _ _ (To.seq (To.code fun Kc hKc => ?_))
 have hba : Below w.heap.size w (w.alloc (.cells #[.int .i64 (-1)] 3)) := (Below.refl _ _).alloc (Nat.le_refl _) _
 have hx := heap_alloc_new w (.cells #[.int .i64 (-1)] 3)
 have hL1 := (hba.block L (blk_lt hL)).trans hL
 have l3 := blk_cell hL1 3
 have C1 : Hid _ := calls127 (-1) nh hnh w.heap.size 1 (w.alloc (.cells #[.int .i64 (-1)] 3)) hx
 unfold c115_1
 go_wp2_with (go_at_call 127; refine Calls.mono C1.out ?_; rintro e W ⟨_, rfl, ⟨g, rfl, hg1, hg⟩, hb2⟩; dsimp only)
 have hbW : Below w.heap.size w W := hba.trans (hb2.mono hba.size)
 have hLW := (hb2.block L (blk_lt hL1)).trans hL1
 have hgw : w.heap.size ≤ g := Nat.le_trans hba.size hg1
 clear hb2 l3 hx hba hL1 C1
 have hhI : (h : Int) < (nh : Int) := by omega
 have hcell : W.cell? ⟨g, h, none⟩ = some (.int .i64 (-1)) := by
  rw [blk_cell hg]; simp [nums, List.getElem?_replicate, hh]
 have hfr := blk_frozen hg h
 have hset := blk_set hg h (.int .i64 0)
 refine hKc _ _ (To.seq (To.code fun Kc hKc => ?_))
 unfold c115_2
 go_wp2
 have hb3 : Below w.heap.size w (W.setCell ⟨g, h, none⟩ (.int .i64 0)) := hbW.setCell hgw _
 have hrow : (W.setCell ⟨g, h, none⟩ (.int .i64 0)).heap[g]? = some (.cells (nums .i64 ((List.replicate nh (-1 : Int)).set h 0)).toArray 3 (0, 0)) := by
  rw [hset, List.setIfInBounds_toArray]; simp only [nums, List.map_set]
 clear hset hcell hfr hLW hg
 generalize W.setCell ⟨g, h, none⟩ (.int .i64 0) = W2 at hb3 hrow ⊢
 refine hKc _ _ (To.seq (To.code fun Kc hKc => ?_))
 have hL2 := (hb3.block L (blk_lt hL)).trans hL
 have l3 := blk_cell hL2 3
 have hmk := mk174 nh (by omega)
 unfold c115_3
 go_wp2
 have hch := heap_alloc_new W2 (.chan nh #[] false 0 0 false)
 have hbc : Below W2.heap.size W2 (W2.alloc (.chan nh #[] false 0 0 false)) := (Below.refl _ _).alloc (Nat.le_refl _) _
 have hb4 := hb3.trans (hbc.mono hb3.size)
 have hrow2 := (hbc.block g (blk_lt hrow)).trans hrow
 have hgc : g < W2.heap.size := blk_lt hrow
 have hgC : w.heap.size ≤ W2.heap.size := hb3.size
 generalize W2.alloc (.chan nh #[] false 0 0 false) = W3 at hch hb4 hrow2 ⊢
 generalize W2.heap.size = gC at hch hgc hgC ⊢
 clear hbc hmk hb3 hrow l3 hL2
 refine hKc _ _ (To.seq (To.region rfl (To.op (o := ⟨some 27, .move (.tmp 6), 174, "list.go:229", #[], none⟩) rfl rfl fun Kc hKc => ?_)))
 go_simp
 refine hKc _ _ (To.op (o := ⟨some 28, .move (.tmp 1), 3, "list.go:229", #[], none⟩) rfl rfl fun Kc hKc => ?_)
 go_simp
 refine hKc _ _ (To.send (o := ⟨none, .send (.tmp 27) (.tmp 28), 0, "list.go:229", #[⟨0, .data⟩, ⟨1, .data⟩], none⟩) (z' := .tuple #[]) (v := .int .i64 (h : Int)) (c := gC) (by decide) rfl rfl ?_ hch (by simp; omega) ?_)
 ·unfold execOp
  simp [go_sem, scase]
 have hb5 := below_setChan hb4 hgC nh (#[].push (.int .i64 (h : Int))) false (0 + 1) 0 false
 have hch5 := heap_setChan W3 gC nh (#[].push (.int .i64 (h : Int))) false (0 + 1) 0 false (blk_lt hch)
 have hrow5 : (W3.setChan gC nh (#[].push (.int .i64 (h : Int))) false (0 + 1) 0 false).heap[g]? = some (.cells (nums .i64 ((List.replicate nh (-1 : Int)).set h 0)).toArray 3 (0, 0)) := by
  simp only [World.setChan]
  rw [Array.getElem?_setIfInBounds_ne (by omega)]
  exact hrow2
 generalize W3.setChan gC nh (#[].push (.int .i64 (h : Int))) false (0 + 1) 0 false = W4 at hb5 hch5 hrow5 ⊢
 have hAt : At115 w nh g gC ((List.replicate nh (-1 : Int)).set h 0) [(h : Int)] W4 := ⟨hb5, hrow5, 0 + 1, 0, hch5⟩
 obtain ⟨hsm, hng⟩ := small_start nh h hh
 refine To.regionEnd (To.seq (To.seq (To.code fun Kc hKc => ?_)))
 have HAt : Hid _ := hAt
 have HSm : Hid _ := hsm
 clear hAt hsm hb4 hch hrow2 hb5 hch5 hrow5
 unfold c115_5
 go_wp2
 refine hKc _ _ (To.block (To.loop ?_))
 refine out115 hgw hgC (by omega) hnh hd hin Ak ck Ac Ah nc cc nh' ch va hL hK (stepsOf hd nh h) (fun t0 t1 t2 t3 t4 t6 t7 t8 t9 xD jA qQ jK jZ qN xB jL jW qL jH qC xE qG jY qH qZ jI jP qT xC qJ qU jN qA jR qO qV qB jU xA qS qR qD jV jC jO jD qE jS qF qW qI qY jX qM jB jE qK jF qX jG jM qP jT jQ jJ V hV hS => ?_) (2 * nh + 1) _ _ _ _ _ _ _ _ _ _ _ _ _ _ _ _ _ _ _ _ _ _ _ _ _ _ _ _ _ _ _ _ _ _ _ _ _ _ _ _ _ _ _ _ _ _ _ _ _ _ _ _ _ _ _ _ _ _ _ _ _ _ _ W4 _ [(h : Int)] (by simp; omega) rfl HSm.out HAt.out
 refine To.seq (To.code fun Kc hKc => ?_)
 unfold c115_17
 go_wp2
 exact hKc _ _ (To.ret Try.func115 rfl (results_tmp (t := 4) rfl _ _ _) ⟨⟨g, rfl, hV.row, hS.len⟩, hV.old⟩)
section
variable {Ac Ah : Option Addr} {nc cc nh ch : Nat} {cl : List S122} {hd : List S68}
theorem calls114 {w : World} (hT : Trades w Ac nc cc Ah nh ch cl hd) (gn : Nat) (c h : Nat) (hh : h < nh) (hg : w.heap[gn]? = some (.cells #[.int .i64 (h : Int)] 3 (0, 0))) :
  Calls Try.prog 114 #[.agg (tradesV Ac nc cc Ah nh ch), .slice (some ⟨gn, 0, none⟩) 1 c] w fun e w' => ∃ v, e = .returned v ∧ ∃ L va vk, v = .tuple #[ptr L, .int .i64 0] ∧ w'.heap[L]? = some (.cells (listV Ac nc cc Ah nh ch va vk) 173 (0, 0)) ∧ (∃ Ak ck, vk = .slice Ak nh ck ∧ KindsAt w' Ak nh hd) ∧ Below w.heap.size w w' := by
 refine calls_of_to (tmps := #[.agg (tradesV Ac nc cc Ah nh ch), .slice (some ⟨gn, 0, none⟩) 1 c, undef, undef, undef, undef, undef, undef, undef, undef, undef, undef, undef, undef, undef, undef, undef, undef, undef, undef, undef, undef, undef, undef, undef, undef, undef, undef, undef, undef, undef, undef, undef]) Try.func114 body114 (by kernel_rfl) fun cs => ?_
 have hmh := hT.maxh
 have hlen : hd.length = nh := Kd.C_len hT.hds
 unfold b114
 refine To.seq (To.code fun Kc hKc => ?_)
 unfold c114_0
 go_wp2
 have hbx := heap_alloc_new w (.cells (tradesV Ac nc cc Ah nh ch) 62)
 have hb : Below w.heap.size w (w.alloc (.cells (tradesV Ac nc cc Ah nh ch) 62)) := (Below.refl _ _).alloc (Nat.le_refl _) _
 generalize w.alloc (.cells (tradesV Ac nc cc Ah nh ch) 62) = W at hbx hb ⊢
 generalize hgs : w.heap.size = g at hbx hb ⊢
 have hgW : g ≤ W.heap.size := Nat.le_of_lt (blk_lt hbx)
 refine hKc _ _ (To.seq (To.code fun Kc hKc => ?_))
 have g0 := blk_cell hbx 0
 have g1 := blk_cell hbx 1
 have C1 : Hid _ := calls125 (hT.below (hgs ▸ hb))
 unfold c114_1
 go_wp2_with (go_at_call 125; refine Calls.mono C1.out ?_; rintro e W2 ⟨_, rfl, L, va, vk, rfl, hL1, hL, hO, hb2⟩; dsimp only)
 have hbW2 : Below g w W2 := hb.trans (hb2.mono hgW)
 have hbx2 := (hb2.block g (blk_lt hbx)).trans hbx
 obtain ⟨Ak, ck, rfl, hck, hK⟩ := kinds_of hO hb2
 rw [hlen] at hck hK hL
 have hgn := (hbW2.block gn (by rw [← hgs]; exact blk_lt hg)).trans hg
 clear hO hb2 hbx C1 g0 g1
 refine hKc _ _ (To.seq (To.seq (To.code fun Kc hKc => ?_)))
 unfold c114_2
 go_wp2
 refine hKc _ _ (To.no rfl (To.skip (To.seq (To.seq (To.code fun Kc hKc => ?_)))))
 unfold c114_4
 go_wp2
 refine hKc _ _ (To.block (To.loop (To.seq (To.code fun Kc hKc => ?_))))
 unfold c114_5
 go_wp2
 refine hKc _ _ (To.seq (To.yes rfl (To.skip (To.seq (To.block (To.seq (To.code fun Kc hKc => ?_)))))))
 have n0 : W2.cell? ⟨gn, 0, none⟩ = some (.int .i64 (h : Int)) := blk_cell hgn 0
 unfold c114_6
 go_wp2
 refine hKc _ _ (To.seq (To.code fun Kc hKc => ?_))
 have g1 := blk_cell hbx2 1
 have hh0 : (0 : Int) ≤ (h : Int) := by omega
 have hh1 : (h : Int) ≤ (nh : Int) - 1 := by omega
 unfold c114_7
 go_wp2_with (go_at_call 126; refine Calls.mono (between126 _ _ _ hh0 hh1 _) ?_; rintro e W3 ⟨rfl, hb3⟩; dsimp only)
 have hL3 := (hb3.block L (blk_lt hL)).trans hL
 have hK3 := hK.below hb3
 have hbW3 : Below g w W3 := hbW2.trans (hb3.mono (by have := hbW2.size; omega))
 refine hKc _ _ (To.no rfl (To.skip (To.inBlock (To.code fun Kc hKc => ?_))))
 unfold c114_9
 go_wp2
 refine hKc _ _ (To.inLoop (To.seq (To.code fun Kc hKc => ?_)))
 unfold c114_5
 go_wp2
 refine hKc _ _ (To.seq (To.no rfl (To.exit rfl (To.seq (To.code fun Kc hKc => ?_)))))
 unfold c114_10
 go_wp2
 exact hKc _ _ (To.ret Try.func114 rfl (results_tmp2 rfl _ _ _) ⟨L, va, .slice Ak nh ck, rfl, hL3, ⟨Ak, ck, rfl, hK3⟩, hgs ▸ hbW3⟩)
theorem AlsoOk.len {nh i : Nat} {l : List Int} (h : AlsoOk nh i l) : l.length ≤ nh := by
 have key : ∀ k : Nat, ∀ x : Int, l[k]? = some x → (k : Int) ≤ x := by
  intro k
  induction k with
  | zero => intro x hx; exact (h.range 0 x hx).1
  | succ k ih =>
   intro x hx
   have hk : k < l.length := by have := (List.getElem?_eq_some_iff.1 hx).1; omega
   have h1 := ih _ (List.getElem?_eq_getElem hk)
   have h2 := h.asc k x _ hx (List.getElem?_eq_getElem hk)
   omega
 rcases Nat.eq_zero_or_pos l.length with h0 | h0
 ·omega
 ·have hl : l.length - 1 < l.length := by omega
  have h1 := key _ _ (List.getElem?_eq_getElem hl)
  have h2 := (h.range _ _ (List.getElem?_eq_getElem hl)).2.1
  omega
theorem Trades.inside {w : World} (hT : Trades w Ac nc cc Ah nh ch cl hd) : Inside nh hd := fun i hi => by
 have hk := hT.okh i hi
 have hm := hT.maxh
 refine ⟨fun x hx => ?_, by have := hk.also.len; omega⟩
 unfold nextsOf at hx
 split at hx
 ·rename_i h
  obtain rfl := List.mem_singleton.1 hx
  have := hk.see
  omega
 ·obtain ⟨k, hl, rfl⟩ := List.getElem_of_mem hx
  have := hk.also.range k _ (List.getElem?_eq_getElem hl)
  omega
theorem calls92 {w : World} (hT : Trades w Ac nc cc Ah nh ch cl hd) (h : Nat) (hh : h < nh) :
  Calls Try.prog 92 #[.agg (tradesV Ac nc cc Ah nh ch), .int .i64 (h : Int)] w fun e w' => ∃ v, e = .returned v ∧ ∃ g, v = .tuple #[.slice (some ⟨g, 0, none⟩) nh nh, .int .i64 0] ∧ w'.heap[g]? = some (.cells (nums .i64 (stepsOf hd nh h)).toArray 3 (0, 0)) ∧ (stepsOf hd nh h).length = nh ∧ Below w.heap.size w w' := by
 refine calls_of_to (tmps := #[.agg (tradesV Ac nc cc Ah nh ch), .int .i64 (h : Int), undef, undef, undef, undef, undef, undef, undef, undef, undef, undef, undef, undef, undef, undef, undef, undef, undef, undef, undef]) Try.func92 body92 (by kernel_rfl) fun cs => ?_
 unfold b92
 refine To.seq (To.code fun Kc hKc => ?_)
 unfold c92_0
 go_wp2
 have hbx := heap_alloc_new w (.cells (tradesV Ac nc cc Ah nh ch) 62)
 have hb : Below w.heap.size w (w.alloc (.cells (tradesV Ac nc cc Ah nh ch) 62)) := (Below.refl _ _).alloc (Nat.le_refl _) _
 generalize w.alloc (.cells (tradesV Ac nc cc Ah nh ch) 62) = W at hbx hb ⊢
 generalize hgs : w.heap.size = g at hbx hb ⊢
 have hgW : g ≤ W.heap.size := Nat.le_of_lt (blk_lt hbx)
 refine hKc _ _ (To.seq (To.code fun Kc hKc => ?_))
 have g0 := blk_cell hbx 0
 have g1 := blk_cell hbx 1
 have hb2 : Below W.heap.size W (W.alloc (.cells #[.int .i64 (h : Int)] 3)) := (Below.refl _ _).alloc (Nat.le_refl _) _
 have hbW : Below g w (W.alloc (.cells #[.int .i64 (h : Int)] 3)) := hb.trans (hb2.mono hgW)
 have C1 : Hid _ := calls114 (hT.below (hgs ▸ hbW)) W.heap.size 1 h hh (heap_alloc_new W _)
 unfold c92_1
 go_wp2_with (go_at_call 114; refine Calls.mono C1.out ?_; rintro e W2 ⟨_, rfl, L, va, vk, rfl, hL, ⟨Ak, ck, rfl, hK⟩, hb3⟩; dsimp only)
 have hbW2 : Below g w W2 := hbW.trans (hb3.mono (by have := hbW.size; rw [hgs] at this; exact this))
 have C2 : Hid _ := calls115 hT.maxh hd hT.inside Ak ck Ac Ah nc cc nh ch va hL hK h hh
 clear hb3 C1 g0 g1 hbx hb2 hbW
 refine hKc _ _ (To.seq (To.seq (To.code fun Kc hKc => ?_)))
 unfold c92_2
 go_wp2
 refine hKc _ _ (To.no rfl (To.skip (To.seq (To.code fun Kc hKc => ?_))))
 unfold c92_4
 go_wp2_with (go_at_call 115; refine Calls.mono C2.out ?_; rintro e W3 ⟨_, rfl, ⟨gs, rfl, hgr, hlen⟩, hb3⟩; dsimp only)
 have hbW3 : Below g w W3 := hbW2.trans (hb3.mono (by have := hbW2.size; rw [hgs] at this; exact this))
 exact hKc _ _ (To.ret Try.func92 rfl (results_tmp2 rfl _ _ _) ⟨gs, rfl, hgr, hlen, hgs ▸ hbW3⟩)
end
noncomputable def c88_0 : Array Oper := (fun {c} (_ : rg Try.f88 0 = some c) => c) rfl
noncomputable def c88_1 : Array Oper := (fun {c} (_ : rg Try.f88 1 = some c) => c) rfl
noncomputable def c88_2 : Array Oper := (fun {c} (_ : rg Try.f88 2 = some c) => c) rfl
noncomputable def c88_3 : Array Oper := (fun {c} (_ : rg Try.f88 3 = some c) => c) rfl
noncomputable def c88_4 : Array Oper := (fun {c} (_ : rg Try.f88 4 = some c) => c) rfl
noncomputable def c88_5 : Array Oper := (fun {c} (_ : rg Try.f88 5 = some c) => c) rfl
noncomputable def c88_6 : Array Oper := (fun {c} (_ : rg Try.f88 6 = some c) => c) rfl
noncomputable def c88_7 : Array Oper := (fun {c} (_ : rg Try.f88 7 = some c) => c) rfl
noncomputable def c88_8 : Array Oper := (fun {c} (_ : rg Try.f88 8 = some c) => c) rfl
noncomputable def c88_9 : Array Oper := (fun {c} (_ : rg Try.f88 9 = some c) => c) rfl
noncomputable def c88_10 : Array Oper := (fun {c} (_ : rg Try.f88 10 = some c) => c) rfl
noncomputable def l88_1 : Code := (.seq (.region 7 c88_7 false) (.seq (.cond (Operand.tmp 29) Code.skip (Code.exit 2)) (.seq (.block 3 (.seq (.region 8 c88_8 false) (.region 9 c88_9 true))) (.region 10 c88_10 false))))
noncomputable def c88_11 : Array Oper := (fun {c} (_ : rg Try.f88 11 = some c) => c) rfl
noncomputable def l88_0 : Code := (.seq (.region 3 c88_3 false) (.seq (.cond (Operand.tmp 18) Code.skip (Code.exit 0)) (.seq (.block 1 (.seq (.region 4 c88_4 false) (.seq (.region 5 c88_5 false) (.seq (.region 6 c88_6 false) (.block 2 (.loop l88_1)))))) (.region 11 c88_11 false))))
noncomputable def c88_12 : Array Oper := (fun {c} (_ : rg Try.f88 12 = some c) => c) rfl
noncomputable def b88 : Code := (.seq (.region 0 c88_0 false) (.seq (.region 1 c88_1 false) (.seq (.seq (.region 2 c88_2 false) (.block 0 (.loop l88_0))) (.seq (.region 12 c88_12 false) Code.ret))))
theorem body88 : Try.f88.body = some b88 := by kernel_rfl
theorem info4b : (Try.prog.info? 4).map (fun i => (i.zero, i.size, i.bytes)) = some (some (.bool false), 1, 1) := by kernel_rfl
noncomputable def h88_9 : Array Oper := c88_9.extract 0 11
theorem cut88_9 : Cut .any c88_9 h88_9 11 2 := by
 refine Cut.of (fun i hi => ?_) (by kernel_rfl)
 have : i = 0 ∨ i = 1 ∨ i = 2 ∨ i = 3 ∨ i = 4 ∨ i = 5 ∨ i = 6 ∨ i = 7 ∨ i = 8 ∨ i = 9 ∨ i = 10 := by omega
 rcases this with rfl | rfl | rfl | rfl | rfl | rfl | rfl | rfl | rfl | rfl | rfl <;> rfl
structure Kp (B g : Nat) (w w' : World) : Prop where
 os : w'.os = w.os
 tape : w'.tape = w.tape
 output : w'.output = w.output
 size : w.heap.size ≤ w'.heap.size
 same : ∀ k, k < B → k ≠ g → w'.heap[k]? = w.heap[k]?
theorem Kp.trans {B g : Nat} {a b c : World} (h : Kp B g a b) (k : Kp B g b c) : Kp B g a c := ⟨k.os.trans h.os, k.tape.trans h.tape, k.output.trans h.output, Nat.le_trans h.size k.size, fun i hi hn => (k.same i hi hn).trans (h.same i hi hn)⟩
theorem Kp.of_below {B g : Nat} {a b : World} (h : Below B a b) : Kp B g a b := ⟨h.os, h.tape, h.output, h.size, fun i hi _ => h.block i hi⟩
theorem Kp.set {B g : Nat} (a : World) (i : Nat) (u : Value) : Kp B g a (a.setCell ⟨g, i, none⟩ u) := ⟨rfl, rfl, rfl, by simp, fun k _ hn => Below.heap_setCell a ⟨g, i, none⟩ u k hn⟩
set_option maxHeartbeats 4000000 in
theorem reg88_9 {cs : List Frame} {Y : Frame → World → Prop} {K : List Item} (gO nh i base : Nat) (hi : i < nh) (n steps : Int) (rv : List Value) (hrv : rv.length = nh) (v : Value) (hv : rv[i]? = some v) (bs : List Bool) (hbs : bs.length ≤ 1000) (V : World) (hbase : base ≤ V.heap.size) (hgb : gO < base)
  (hO : V.heap[gO]? = some (.cells rv.toArray 129 (0, 0))) (hR : V.ownsRow base 4 1 v bs.length (bools bs)) t0 t2 t3 t4 t7 t8 t9 jD jP jC jI jO qK qJ jG jN jB jJ jS jK jH jL qI qG qH jQ jR jM qC jT jW jU jZ qD jX jV qE qB qA jY jF jA jE
  (h : ∀ y32 y33 y34 y35 y36 y37 y38 y39 y40 y41 y42 y43 V2 v2, Kp base gO V V2 → V2.heap[gO]? = some (.cells (rv.set i v2).toArray 129 (0, 0)) → V2.ownsRow base 4 1 v2 (bs ++ [decide (0 ≤ n ∧ n ≤ steps)]).length (bools (bs ++ [decide (0 ≤ n ∧ n ≤ steps)])) → To Try.prog cs Y ((baseN 88).at ({ tmps := #[t0, .int .i64 steps, t2, t3, t4, .slice (some ⟨gO, 0, none⟩) nh nh, .int .i64 (i : Int), t7, t8, t9, .int .i64 n, jD, jP, jC, jI, jO, qK, qJ, jG, jN, jB, jJ, jS, jK, jH, jL, qI, qG, qH, jQ, jR, jM, y32, y33, y34, y35, y36, y37, y38, y39, y40, y41, y42, y43, jF, jA, jE], defers := [] } : Act) K) V2) :
  To Try.prog cs Y ((baseN 88).at ({ tmps := #[t0, .int .i64 steps, t2, t3, t4, .slice (some ⟨gO, 0, none⟩) nh nh, .int .i64 (i : Int), t7, t8, t9, .int .i64 n, jD, jP, jC, jI, jO, qK, qJ, jG, jN, jB, jJ, jS, jK, jH, jL, qI, qG, qH, jQ, jR, jM, qC, jT, jW, jU, jZ, qD, jX, jV, qE, qB, qA, jY, jF, jA, jE], defers := [] } : Act) (.code (.region 9 c88_9 true) :: K)) V := by
 refine To.code fun Kc hKc => ?_
 have hiI : (i : Int) < (nh : Int) := by omega
 have HH : Hid _ := h
 clear h
 refine wp_region_cut (by kernel_rfl) cut88_9 (wpAny_of_held (S := fun w' => w'.heap[gO]? = some (.cells rv.toArray 129 (0, 0))) _ _ _ _ ?_)
 have hS : ({ V with drawn := V.drawn + 1 } : World).heap[gO]? = some (.cells rv.toArray 129 (0, 0)) := hO
 have hR1 : ({ V with drawn := V.drawn + 1 } : World).ownsRow base 4 1 v bs.length (bools bs) := hR
 have hK1 : Kp base gO V { V with drawn := V.drawn + 1 } := ⟨rfl, rfl, rfl, Nat.le_refl _, fun _ _ _ => rfl⟩
 generalize ({ V with drawn := V.drawn + 1 } : World) = W at hS hR1 hK1 ⊢
 clear hO hR
 have HO : Hid _ := hR1
 clear hR1
 unfold h88_9
 refine tk 0 ⟨some 32, .move (.tmp 5), 125, "fill.go:129", #[], none⟩ (.slice (some ⟨gO, 0, none⟩) nh nh) (.inl ⟨by rfl, ?_⟩) hS ?_
 ·intro w' hw'
  have l3 : w'.cell? ⟨gO, i, none⟩ = some v := by rw [blk_cell hw']; simpa using hv
  clear hw'
  go_simp
 try simp only [pt]
 refine tk 1 ⟨some 33, .move (.tmp 6), 3, "fill.go:129", #[], none⟩ (.int .i64 (i : Int)) (.inl ⟨by rfl, ?_⟩) hS ?_
 ·intro w' hw'
  have l3 : w'.cell? ⟨gO, i, none⟩ = some v := by rw [blk_cell hw']; simpa using hv
  clear hw'
  go_simp
 try simp only [pt]
 refine tk 2 ⟨some 34, .move (.tmp 5), 125, "fill.go:129", #[], none⟩ (.slice (some ⟨gO, 0, none⟩) nh nh) (.inl ⟨by rfl, ?_⟩) hS ?_
 ·intro w' hw'
  have l3 : w'.cell? ⟨gO, i, none⟩ = some v := by rw [blk_cell hw']; simpa using hv
  clear hw'
  go_simp
 try simp only [pt]
 refine tk 3 ⟨some 35, .move (.tmp 6), 3, "fill.go:129", #[], none⟩ (.int .i64 (i : Int)) (.inl ⟨by rfl, ?_⟩) hS ?_
 ·intro w' hw'
  have l3 : w'.cell? ⟨gO, i, none⟩ = some v := by rw [blk_cell hw']; simpa using hv
  clear hw'
  go_simp
 try simp only [pt]
 refine tk 4 ⟨some 36, .indexAddr 125 (.tmp 34) (.tmp 35), 0, "fill.go:129", #[⟨2, .data⟩, ⟨3, .data⟩], none⟩ (.pointer (some ⟨gO, i, none⟩)) (.inl ⟨by rfl, ?_⟩) hS ?_
 ·intro w' hw'
  have l3 : w'.cell? ⟨gO, i, none⟩ = some v := by rw [blk_cell hw']; simpa using hv
  clear hw'
  go_simp
 try simp only [pt]
 refine tk 5 ⟨some 37, .load 129 (.tmp 36), 129, "fill.go:129", #[⟨4, .data⟩], none⟩ v (.inl ⟨by rfl, ?_⟩) hS ?_
 ·intro w' hw'
  have l3 : w'.cell? ⟨gO, i, none⟩ = some v := by rw [blk_cell hw']; simpa using hv
  clear hw'
  go_simp
 try simp only [pt]
 refine tk 6 ⟨some 38, .move (.tmp 10), 3, "fill.go:129", #[], none⟩ (.int .i64 n) (.inl ⟨by rfl, ?_⟩) hS ?_
 ·intro w' hw'
  have l3 : w'.cell? ⟨gO, i, none⟩ = some v := by rw [blk_cell hw']; simpa using hv
  clear hw'
  go_simp
 try simp only [pt]
 refine tk 7 ⟨some 39, .move (.tmp 1), 3, "fill.go:129", #[], none⟩ (.int .i64 steps) (.inl ⟨by rfl, ?_⟩) hS ?_
 ·intro w' hw'
  have l3 : w'.cell? ⟨gO, i, none⟩ = some v := by rw [blk_cell hw']; simpa using hv
  clear hw'
  go_simp
 try simp only [pt]
 refine wpAnyH_ready (rs := [8]) (by kernel_rfl) (by simp) ?_
 refine AllReadyH.cons (o := ⟨some 40, .call ⟨.value (.func 61), #[.tmp 38, .const (.int .i64 0), .tmp 39], #[3, 3, 3]⟩, 4, "fill.go:129", #[⟨6, .data⟩, ⟨7, .data⟩], none⟩) rfl (fun K' hK' => ?_) AllReadyH.nil
 go_simp
 go_at_call 61
 refine Calls.mono (between61 n 0 steps W) ?_
 rintro e W1 ⟨rfl, hb1⟩
 dsimp only
 have hS1 := (hb1.block _ (blk_lt hS)).trans hS
 have hR1 := pw_own_below HO.out hb1
 have hWs : base ≤ W.heap.size := Nat.le_trans hbase hK1.size
 refine hK'.out _ _ hS1 (fun _ => ?_)
 have hK2 : Kp base gO V W1 := hK1.trans (Kp.of_below (hb1.mono hWs))
 have hW1s : base ≤ W1.heap.size := Nat.le_trans hWs hb1.size
 clear hK' K' hb1 HO hK1 hS
 generalize decide (0 ≤ n ∧ n ≤ steps) = bb at HH ⊢
 have HO : Hid _ := hR1
 clear hR1
 try simp only [pt]
 refine wpAnyH_ready (rs := [9]) (by kernel_rfl) (by simp) ?_
 refine AllReadyH.cons (o := ⟨some 41, .buildSlice 129 1 #[(0, .tmp 40)], 129, "fill.go:129", #[⟨8, .data⟩], none⟩) rfl (fun K' hK' => ?_) AllReadyH.nil
 go_simp
 have hba := below_alloc (Below.refl W1.heap.size W1) (Obj.cells #[.bool bb] 4)
 refine hK'.out _ _ ((hba.block _ (blk_lt hS1)).trans hS1) (fun hS2 => ?_)
 clear hK' K'
 try simp only [pt]
 refine wpAnyH_ready (rs := [10]) (by kernel_rfl) (by simp) ?_
 refine AllReadyH.cons (o := ⟨some 42, .call ⟨.builtin .append, #[.tmp 37, .tmp 41], #[129, 129]⟩, 129, "fill.go:129", #[⟨5, .data⟩, ⟨9, .data⟩, ⟨8, .chain⟩], none⟩) rfl (fun K' hK' => ?_) AllReadyH.nil
 refine step_append_cells (w0 := W1) base (by kernel_rfl) (.tmp 37) (.tmp 41) 129 4 _ 1 1 rfl Try.underlying129 info4b rfl (by decide) (by decide) v bs.length (bools bs) [.bool bb] rfl rfl rfl (fun u hu => by simp at hu; subst hu; rfl) HO.out (Below.refl _ _) hW1s (by omega) ?_
 intro v1 w1 hO1 hB1 hg1 _
 have hS3 : w1.heap[gO]? = some (.cells rv.toArray 129 (0, 0)) := blk_grown hS1 hg1 (own_ne HO.out hS1 (by decide))
 refine hK'.out _ _ hS3 (fun _ => ?_)
 have hK3 : Kp base gO V w1 := hK2.trans (Kp.of_below hB1)
 clear hK' K' hS1 hS2 hba hg1 HO hB1
 obtain ⟨A1, c1, rfl⟩ := own_slice hO1
 have H1 : Hid _ := hO1
 clear hO1
 try simp only [pt]
 refine wpAnyH_done (by kernel_rfl) ?_ _
 show wpOps Try.prog c88_9 _ [11, 12] _ _
 have l3 : w1.cell? ⟨gO, i, none⟩ = some v := by rw [blk_cell hS3]; simpa using hv
 have lf := blk_frozen hS3 i
 refine wpOps_step (o := ⟨some 43, .indexAddr 125 (.tmp 32) (.tmp 33), 0, "fill.go:129", #[⟨0, .data⟩, ⟨1, .data⟩, ⟨0, .phase⟩, ⟨1, .phase⟩, ⟨2, .phase⟩, ⟨3, .phase⟩, ⟨4, .phase⟩, ⟨5, .phase⟩, ⟨6, .phase⟩, ⟨7, .phase⟩, ⟨8, .phase⟩, ⟨9, .phase⟩, ⟨10, .phase⟩], none⟩) rfl rfl fun K' hK' => ?_
 go_simp
 refine hK' _ _ ?_
 clear hK' K'
 try simp only [pt]
 refine wpOps_step (o := ⟨none, .store 129 (.tmp 43) (.tmp 42), 0, "fill.go:129", #[⟨11, .data⟩, ⟨10, .data⟩, ⟨10, .chain⟩, ⟨0, .phase⟩, ⟨1, .phase⟩, ⟨2, .phase⟩, ⟨3, .phase⟩, ⟨4, .phase⟩, ⟨5, .phase⟩, ⟨6, .phase⟩, ⟨7, .phase⟩, ⟨8, .phase⟩, ⟨9, .phase⟩, ⟨10, .phase⟩], none⟩) rfl rfl fun K' hK' => ?_
 go_simp
 refine hK' _ _ ?_
 clear hK' K'
 try simp only [pt]
 have L5 := blk_set hS3 i (.slice A1 (bs.length + 1) c1)
 rw [List.setIfInBounds_toArray] at L5
 have O5 := own_setCell H1.out (own_ne H1.out hS3 (by decide)) (p := ⟨gO, i, none⟩) (.slice A1 (bs.length + 1) c1)
 have e1 : bools (bs ++ [bb]) = bools bs ++ [.bool bb] := by simp [bools]
 have e2 : (bs ++ [bb]).length = bs.length + 1 := by simp
 show Kc _ _
 refine hKc _ _ (HH.out _ _ _ _ _ _ _ _ _ _ _ _ _ (.slice A1 (bs.length + 1) c1) (hK3.trans (Kp.set w1 i _)) L5 ?_)
 rw [e1, e2]
 exact O5
def reachRow (hd : List S68) (nh : Nat) (steps : Int) (i : Nat) : List Bool := (stepsOf hd nh i).map fun n => decide (0 ≤ n ∧ n ≤ steps)
def RowB (b0 gO : Nat) (V : World) (v : Value) (bs : List Bool) : Prop := ∃ A c, v = .slice A bs.length c ∧ ∀ (k : Nat) (x : Bool), bs[k]? = some x → ∃ ad, A = some ad ∧ V.cell? (ad.add k) = some (.bool x) ∧ ad.block ≠ gO ∧ b0 ≤ ad.block
theorem RowB.kp {b0 gO : Nat} {V V2 : World} {v : Value} {bs : List Bool} (h : RowB b0 gO V v bs) (hk : Kp V.heap.size gO V V2) : RowB b0 gO V2 v bs := by
 obtain ⟨A, c, e, hc⟩ := h
 refine ⟨A, c, e, fun k x hx => ?_⟩
 obtain ⟨ad, e1, h1, h2⟩ := hc k x hx
 refine ⟨ad, e1, ?_, h2⟩
 have hlt := World.block_lt_of_cell? V _ h1
 have hb := hk.same _ hlt (by rw [add_block]; exact h2.1)
 unfold World.cell? at h1 ⊢
 rw [hb]
 exact h1
theorem rowB_of {b0 gO base : Nat} {V : World} {v : Value} {bs : List Bool} (h : V.ownsRow base 4 1 v bs.length (bools bs)) (hO : gO < base) (hb0 : b0 ≤ base) : RowB b0 gO V v bs := by
 obtain ⟨A, c, rfl, hr⟩ := own_reads_of_le (enc := Value.bool) (d := false) (xs := bs) (by simpa [encs, bools] using h)
 obtain ⟨A', c', e⟩ := own_slice h
 refine ⟨A, c, rfl, fun k x hx => ?_⟩
 have hk := (List.getElem?_eq_some_iff.1 hx).1
 obtain ⟨ad, e1, hc⟩ := hr.2.at_ (k : Int) (by omega) (by omega)
 subst e1
 simp only [Int.toNat_natCast] at hc
 have e2 : rdOf false bs (k : Int) = x := by simp [rdOf, List.getD_eq_getElem?_getD, hx]
 rw [e2] at hc
 refine ⟨ad, rfl, hc, ?_⟩
 have := own_base h ad.block (by simp [Value.ownBlock])
 omega
theorem set_same {l : List Value} {i : Nat} {v : Value} (h : l[i]? = some v) : l.set i v = l := by
 apply List.ext_getElem?
 intro j
 rw [List.getElem?_set]
 have hi := (List.getElem?_eq_some_iff.1 h).1
 split
 ·rename_i e
  subst e
  rw [h]
 ·rfl
theorem mk125 (n : Nat) (hn : n ≤ 1000) (W : World) : (Instr.makeSlice 125 (.int .i64 (n : Int)) (.int .i64 (n : Int))).run Try.prog W = .ok (.slice (some ⟨W.heap.size, 0, none⟩) n n) (W.alloc (.cells (madeCells #[.slice none 0 0] n) 129)) := by
 exact Go.run_make_row' 125 129 (.slice none 0 0) 24 Try.underlying125 (show (Try.prog.info? 129).map (fun i => (i.zero, i.size, i.bytes)) = some (some (.slice none 0 0), 1, 24) by kernel_rfl) rfl .i64 .i64 n (by omega) (by omega) W
section
variable {cs : List Frame} {Y : Frame → World → Prop} {K : List Item}
theorem in88 (gO nh i base gs gT : Nat) (hi : i < nh) (hnh : nh ≤ 6) (steps : Int) (rv : List Value) (hrv : rv.length = nh) (L : List Int) (hL : L.length = nh) (W : World) (hgb : gO < base) (hgs : gs < base) (hgne : gs ≠ gO) (hbW : base = W.heap.size) (hrow : W.heap[gs]? = some (.cells (nums .i64 L).toArray 3 (0, 0)))
  (hend : ∀ t0 t3 t4 t7 t8 t9 qF jD jP jC jI jO jG jN jB jJ jS jK jH jL qI qG qH jQ jR jM qC jT jW jU jZ qD jX jV qE qB qA jY jF jA jE V v, Kp base gO W V → V.heap[gO]? = some (.cells (rv.set i v).toArray 129 (0, 0)) → V.ownsRow base 4 1 v (L.map fun n => decide (0 ≤ n ∧ n ≤ steps)).length (bools (L.map fun n => decide (0 ≤ n ∧ n ≤ steps))) → To Try.prog cs Y ((baseN 88).at ({ tmps := #[t0, .int .i64 steps, ptr gT, t3, t4, .slice (some ⟨gO, 0, none⟩) nh nh, .int .i64 (i : Int), t7, t8, t9, qF, jD, jP, jC, jI, jO, .int .i64 nh, .int .i64 (i : Int), jG, jN, jB, jJ, jS, jK, jH, jL, qI, qG, qH, jQ, jR, jM, qC, jT, jW, jU, jZ, qD, jX, jV, qE, qB, qA, jY, jF, jA, jE], defers := [] } : Act) K) V) :
  ∀ (r j : Nat), j + r = nh → ∀ t0 t3 t4 t7 t8 t9 qF jD jP jC jI jO jG jN jB jJ jS jK jH jL jQ jR jM qC jT jW jU jZ qD jX jV qE qB qA jY jF jA jE V v, Kp base gO W V → V.heap[gO]? = some (.cells (rv.set i v).toArray 129 (0, 0)) → V.ownsRow base 4 1 v ((L.take j).map fun n => decide (0 ≤ n ∧ n ≤ steps)).length (bools ((L.take j).map fun n => decide (0 ≤ n ∧ n ≤ steps))) →
   To Try.prog cs Y ((baseN 88).at ({ tmps := #[t0, .int .i64 steps, ptr gT, t3, t4, .slice (some ⟨gO, 0, none⟩) nh nh, .int .i64 (i : Int), t7, t8, t9, qF, jD, jP, jC, jI, jO, .int .i64 nh, .int .i64 (i : Int), jG, jN, jB, jJ, jS, jK, jH, jL, .slice (some ⟨gs, 0, none⟩) nh nh, .int .i64 nh, .int .i64 j, jQ, jR, jM, qC, jT, jW, jU, jZ, qD, jX, jV, qE, qB, qA, jY, jF, jA, jE], defers := [] } : Act) (.code l88_1 :: .inLoop l88_1 :: .inBlock 2 :: K)) V := by
 intro r
 induction r with
 | zero =>
  intro j hj t0 t3 t4 t7 t8 t9 qF jD jP jC jI jO jG jN jB jJ jS jK jH jL jQ jR jM qC jT jW jU jZ qD jX jV qE qB qA jY jF jA jE V v hk hO hR
  obtain rfl : j = nh := by omega
  have hlt : ¬ ((j : Int) < (j : Int)) := by omega
  refine To.seq (To.code fun Kc hKc => ?_)
  unfold c88_7
  go_wp2
  refine hKc _ _ (To.seq (To.no rfl (To.exit rfl (hend _ _ _ _ _ _ _ _ _ _ _ _ _ _ _ _ _ _ _ _ _ _ _ _ _ _ _ _ _ _ _ _ _ _ _ _ _ _ _ _ _ V v hk hO ?_))))
  rw [List.take_of_length_le (by omega)] at hR
  exact hR
 | succ r ih =>
  intro j hj t0 t3 t4 t7 t8 t9 qF jD jP jC jI jO jG jN jB jJ jS jK jH jL jQ jR jM qC jT jW jU jZ qD jX jV qE qB qA jY jF jA jE V v hk hO hR
  replace ih : Hid _ := ih
  have HE : Hid _ := hend
  clear hend
  have hlt : (j : Int) < (nh : Int) := by omega
  have hjl : j < L.length := by omega
  have hrV := (hk.same gs hgs hgne).trans hrow
  have hn : L[j]? = some L[j] := List.getElem?_eq_getElem hjl
  have hcell : V.cell? ⟨gs, j, none⟩ = some (.int .i64 L[j]) := by rw [blk_cell hrV]; simp [nums, hn]
  have htake : (L.take (j + 1)).map (fun n => decide (0 ≤ n ∧ n ≤ steps)) = (L.take j).map (fun n => decide (0 ≤ n ∧ n ≤ steps)) ++ [decide (0 ≤ L[j] ∧ L[j] ≤ steps)] := by
   rw [List.take_add_one, hn, List.map_append]; rfl
  have hbl : ((L.take j).map fun n => decide (0 ≤ n ∧ n ≤ steps)).length ≤ 1000 := by simp; omega
  generalize L[j] = n at hcell htake
  have HO : Hid _ := hO
  have HR : Hid _ := hR
  have HT : Hid _ := htake
  clear hO hR hrV hn htake
  refine To.seq (To.code fun Kc hKc => ?_)
  unfold c88_7
  go_wp2
  refine hKc _ _ (To.seq (To.yes rfl (To.skip (To.seq (To.block (To.seq (To.code fun Kc hKc => ?_)))))))
  unfold c88_8
  go_wp2
  refine hKc _ _ ?_
  have hsz : base ≤ V.heap.size := by have := hk.size; omega
  refine reg88_9 gO nh i base hi n steps (rv.set i v) (by rw [List.length_set]; exact hrv) v (by rw [List.getElem?_set_self (by omega)]) _ hbl V hsz hgb HO.out HR.out _ _ _ _ _ _ _ _ _ _ _ _ _ _ _ _ _ _ _ _ _ _ _ _ _ _ _ _ _ _ _ _ _ _ _ _ _ _ _ _ _ _ _ ?_
  intro y32 y33 y34 y35 y36 y37 y38 y39 y40 y41 y42 y43 V2 v2 hk2 hO2 hR2
  rw [List.set_set] at hO2
  rw [← HT.out] at hR2
  have HO2 : Hid _ := hO2
  have HR2 : Hid _ := hR2
  clear hO2 hR2 HO HR HT
  refine To.inBlock (To.code fun Kc hKc => ?_)
  unfold c88_10
  go_wp2
  refine hKc _ _ (To.inLoop ?_)
  rw [show ((j : Int) + 1) = ((j + 1 : Nat) : Int) by omega]
  exact ih.out (j + 1) (by omega) _ _ _ _ _ _ _ _ _ _ _ _ _ _ _ _ _ _ _ _ _ _ _ _ _ _ _ _ _ _ _ _ _ _ _ _ _ _ V2 v2 (hk.trans hk2) HO2.out HR2.out
variable {Ac Ah : Option Addr} {nc cc nh ch : Nat} {cl : List S122} {hd : List S68}
theorem out88 {w : World} (hT : Trades w Ac nc cc Ah nh ch cl hd) (gO gT : Nat) (hgO : w.heap.size ≤ gO) (hgT : w.heap.size ≤ gT) (hne : gT ≠ gO) (steps : Int)
  (hend : ∀ t0 t1 t2 t3 t4 t6 t7 t8 t9 qF jD jP jC jI jO qK qJ jG jN jB jJ jS jK jH jL qI qG qH jQ jR jM qC jT jW jU jZ qD jX jV qE qB qA jY jF jA jE V (rv : List Value), rv.length = nh → (∀ j : Nat, j < nh → ∃ v, rv[j]? = some v ∧ RowB w.heap.size gO V v (reachRow hd nh steps j)) → Below w.heap.size w V → V.heap[gO]? = some (.cells rv.toArray 129 (0, 0)) → To Try.prog cs Y ((baseN 88).at ({ tmps := #[t0, t1, t2, t3, t4, .slice (some ⟨gO, 0, none⟩) nh nh, t6, t7, t8, t9, qF, jD, jP, jC, jI, jO, qK, qJ, jG, jN, jB, jJ, jS, jK, jH, jL, qI, qG, qH, jQ, jR, jM, qC, jT, jW, jU, jZ, qD, jX, jV, qE, qB, qA, jY, jF, jA, jE], defers := [] } : Act) K) V) :
  ∀ (r i : Nat), i + r = nh → ∀ t0 t3 t4 t6 t7 t8 t9 qF jD jP jC jI jO jG jN jB jJ jS jK jH jL qI qG qH jQ jR jM qC jT jW jU jZ qD jX jV qE qB qA jY jF jA jE V (rv : List Value), rv.length = nh → (∀ j : Nat, j < i → ∃ v, rv[j]? = some v ∧ RowB w.heap.size gO V v (reachRow hd nh steps j)) → (∀ j : Nat, i ≤ j → j < nh → rv[j]? = some (.slice none 0 0)) → Below w.heap.size w V → V.heap[gO]? = some (.cells rv.toArray 129 (0, 0)) → V.heap[gT]? = some (.cells (tradesV Ac nc cc Ah nh ch) 62 (0, 0)) →
   To Try.prog cs Y ((baseN 88).at ({ tmps := #[t0, .int .i64 steps, ptr gT, t3, t4, .slice (some ⟨gO, 0, none⟩) nh nh, t6, t7, t8, t9, qF, jD, jP, jC, jI, jO, .int .i64 nh, .int .i64 i, jG, jN, jB, jJ, jS, jK, jH, jL, qI, qG, qH, jQ, jR, jM, qC, jT, jW, jU, jZ, qD, jX, jV, qE, qB, qA, jY, jF, jA, jE], defers := [] } : Act) (.code l88_0 :: .inLoop l88_0 :: .inBlock 0 :: K)) V := by
 intro r
 have hmh := hT.maxh
 induction r with
 | zero =>
  intro i hi t0 t3 t4 t6 t7 t8 t9 qF jD jP jC jI jO jG jN jB jJ jS jK jH jL qI qG qH jQ jR jM qC jT jW jU jZ qD jX jV qE qB qA jY jF jA jE V rv hrv hdone hleft hB hO hTT
  obtain rfl : i = nh := by omega
  have hlt : ¬ ((i : Int) < (i : Int)) := by omega
  have HD : Hid _ := hdone
  clear hdone hleft
  refine To.seq (To.code fun Kc hKc => ?_)
  unfold c88_3
  go_wp2
  exact hKc _ _ (To.seq (To.no rfl (To.exit rfl (hend _ _ _ _ _ _ _ _ _ _ _ _ _ _ _ _ _ _ _ _ _ _ _ _ _ _ _ _ _ _ _ _ _ _ _ _ _ _ _ _ _ _ _ _ _ _ V rv hrv HD.out hB hO))))
 | succ r ih =>
  intro i hi t0 t3 t4 t6 t7 t8 t9 qF jD jP jC jI jO jG jN jB jJ jS jK jH jL qI qG qH jQ jR jM qC jT jW jU jZ qD jX jV qE qB qA jY jF jA jE V rv hrv hdone hleft hB hO hTT
  replace ih : Hid _ := ih
  have HE : Hid _ := hend
  clear hend
  have hil : i < nh := by omega
  have hlt : (i : Int) < (nh : Int) := by omega
  have HD : Hid _ := hdone
  have HL : Hid _ := hleft
  clear hdone hleft
  refine To.seq (To.code fun Kc hKc => ?_)
  unfold c88_3
  go_wp2
  refine hKc _ _ (To.seq (To.yes rfl (To.skip (To.seq (To.block (To.seq (To.code fun Kc hKc => ?_)))))))
  unfold c88_4
  go_wp2
  refine hKc _ _ (To.seq (To.code fun Kc hKc => ?_))
  have t0' := blk_cell hTT 0
  have t1' := blk_cell hTT 1
  have C1 : Hid _ := calls92 (hT.below hB) i hil
  unfold c88_5
  go_wp2_with (go_at_call 92; refine Calls.mono C1.out ?_; rintro e W ⟨_, rfl, gs, rfl, hgs, hlen, hb2⟩; dsimp only)
  have hBW : Below w.heap.size w W := hB.trans (hb2.mono hB.size)
  have hOW := (hb2.block gO (blk_lt hO)).trans hO
  have hTW := (hb2.block gT (blk_lt hTT)).trans hTT
  have hgsne : gs ≠ gO := fun e => by
   subst e
   rw [hgs] at hOW
   injection hOW with h
   injection h with _ h _
   exact absurd h (by decide)
  refine hKc _ _ (To.seq (To.code fun Kc hKc => ?_))
  clear C1 t0' t1'
  unfold c88_6
  go_wp2
  refine hKc _ _ (To.block (To.loop ?_))
  have hset0 : (rv.set i (.slice none 0 0)) = rv := set_same (HL.out i (Nat.le_refl _) hil)
  refine in88 gO nh i W.heap.size gs gT hil hmh steps rv hrv (stepsOf hd nh i) hlen W (blk_lt hOW) (blk_lt hgs) hgsne rfl hgs ?_ nh 0 (by omega) _ _ _ _ _ _ _ _ _ _ _ _ _ _ _ _ _ _ _ _ _ _ _ _ _ _ _ _ _ _ _ _ _ _ _ _ _ _ W (.slice none 0 0) ⟨rfl, rfl, rfl, Nat.le_refl _, fun _ _ _ => rfl⟩ (by rw [hset0]; exact hOW) (own_nil _ _ _ _)
  intro t0 t3 t4 t7 t8 t9 qF jD jP jC jI jO jG jN jB jJ jS jK jH jL qI qG qH jQ jR jM qC jT jW jU jZ qD jX jV qE qB qA jY jF jA jE V2 v hk hO2 hR2
  have hKV : Kp V.heap.size gO V V2 := (Kp.of_below hb2).trans ⟨hk.os, hk.tape, hk.output, hk.size, fun q hq hn => hk.same q (Nat.lt_of_lt_of_le hq hb2.size) hn⟩
  have hB2 : Below w.heap.size w V2 := ⟨hKV.os.trans hB.os, hKV.tape.trans hB.tape, hKV.output.trans hB.output, Nat.le_trans hB.size hKV.size, fun q hq => (hKV.same q (Nat.lt_of_lt_of_le hq hB.size) (by omega)).trans (hB.block q hq)⟩
  have hT2 := (hKV.same gT (blk_lt hTT) hne).trans hTT
  have hrow : RowB w.heap.size gO V2 v (reachRow hd nh steps i) := rowB_of hR2 (blk_lt hOW) hBW.size
  have HD2 : Hid (∀ j : Nat, j < i + 1 → ∃ v', (rv.set i v)[j]? = some v' ∧ RowB w.heap.size gO V2 v' (reachRow hd nh steps j)) := fun j hj => by
   by_cases hji : j = i
   ·subst hji
    exact ⟨v, by rw [List.getElem?_set_self (by omega)], hrow⟩
   ·obtain ⟨v', h1, h2⟩ := HD.out j (by omega)
    exact ⟨v', by rw [List.getElem?_set_ne (fun e => hji e.symm)]; exact h1, h2.kp hKV⟩
  have HL2 : Hid (∀ j : Nat, i + 1 ≤ j → j < nh → (rv.set i v)[j]? = some (.slice none 0 0)) := fun j h1 h2 => by
   rw [List.getElem?_set_ne (by omega)]
   exact HL.out j (by omega) h2
  have HO2 : Hid _ := hO2
  clear hO2 hR2 hrow HD HL hset0
  refine To.inBlock (To.code fun Kc hKc => ?_)
  unfold c88_11
  go_wp2
  refine hKc _ _ (To.inLoop ?_)
  rw [show ((i : Int) + 1) = ((i + 1 : Nat) : Int) by omega]
  exact ih.out (i + 1) (by omega) _ _ _ _ _ _ _ _ _ _ _ _ _ _ _ _ _ _ _ _ _ _ _ _ _ _ _ _ _ _ _ _ _ _ _ _ _ _ _ _ _ _ V2 (rv.set i v) (by rw [List.length_set]; exact hrv) HD2.out HL2.out hB2 HO2.out hT2
theorem calls88 {w : World} (hT : Trades w Ac nc cc Ah nh ch cl hd) (steps : Int) : Calls Try.prog 88 #[.agg (tradesV Ac nc cc Ah nh ch), .int .i64 steps] w fun e w' => ∃ v, e = .returned v ∧ ∃ (gO : Nat) (rv : List Value), v = .slice (some ⟨gO, 0, none⟩) nh nh ∧ rv.length = nh ∧ (∀ j : Nat, j < nh → ∃ v, rv[j]? = some v ∧ RowB w.heap.size gO w' v (reachRow hd nh steps j)) ∧ w'.heap[gO]? = some (.cells rv.toArray 129 (0, 0)) ∧ w.heap.size ≤ gO ∧ Below w.heap.size w w' := by
 refine calls_of_to (tmps := #[.agg (tradesV Ac nc cc Ah nh ch), .int .i64 steps, undef, undef, undef, undef, undef, undef, undef, undef, undef, undef, undef, undef, undef, undef, undef, undef, undef, undef, undef, undef, undef, undef, undef, undef, undef, undef, undef, undef, undef, undef, undef, undef, undef, undef, undef, undef, undef, undef, undef, undef, undef, undef, undef, undef, undef]) Try.func88 body88 (by kernel_rfl) fun cs => ?_
 have hmh := hT.maxh
 unfold b88
 refine To.seq (To.code fun Kc hKc => ?_)
 unfold c88_0
 go_wp2
 have hg := heap_alloc_new w (.cells (tradesV Ac nc cc Ah nh ch) 62)
 have hb : Below w.heap.size w (w.alloc (.cells (tradesV Ac nc cc Ah nh ch) 62)) := (Below.refl _ _).alloc (Nat.le_refl _) _
 have hs : w.heap.size < (w.alloc (.cells (tradesV Ac nc cc Ah nh ch) 62)).heap.size := by simp
 generalize w.alloc (.cells (tradesV Ac nc cc Ah nh ch) 62) = W at hg hb hs ⊢
 refine hKc _ _ (To.seq (To.code fun Kc hKc => ?_))
 have g1 := blk_cell hg 1
 have hmk := mk125 nh (by omega)
 unfold c88_1
 go_wp2
 have hml : (madeCells #[.slice none 0 0] nh) = (List.replicate nh (.slice none 0 0) : List Value).toArray := by rw [← toList_madeCells_one]
 rw [hml]
 have hO := heap_alloc_new W (.cells (List.replicate nh (.slice none 0 0) : List Value).toArray 129)
 have hba : Below W.heap.size W (W.alloc (.cells (List.replicate nh (.slice none 0 0) : List Value).toArray 129)) := (Below.refl _ _).alloc (Nat.le_refl _) _
 have hb2 := hb.trans (hba.mono hb.size)
 have hg2 := (hba.block _ (blk_lt hg)).trans hg
 generalize W.alloc (.cells (List.replicate nh (.slice none 0 0) : List Value).toArray 129) = W2 at hO hb2 hg2 ⊢
 have hgO : w.heap.size ≤ W.heap.size := hb.size
 generalize W.heap.size = gO at hO hs hgO ⊢
 clear hmk hml hba g1 hg hb
 refine hKc _ _ (To.seq (To.seq (To.code fun Kc hKc => ?_)))
 unfold c88_2
 go_wp2
 refine hKc _ _ (To.block (To.loop ?_))
 refine out88 hT gO w.heap.size hgO (Nat.le_refl _) (by omega) steps (fun t0 t1 t2 t3 t4 t6 t7 t8 t9 qF jD jP jC jI jO qK qJ jG jN jB jJ jS jK jH jL qI qG qH jQ jR jM qC jT jW jU jZ qD jX jV qE qB qA jY jF jA jE V rv hrv hD hB hOV => ?_) nh 0 (by omega) _ _ _ _ _ _ _ _ _ _ _ _ _ _ _ _ _ _ _ _ _ _ _ _ _ _ _ _ _ _ _ _ _ _ _ _ _ _ _ _ _ _ W2 (List.replicate nh (.slice none 0 0)) (by simp) (fun j hj => by omega) (fun j _ hj => by rw [List.getElem?_replicate, if_pos hj]) hb2 hO hg2
 have HD : Hid _ := hD
 clear hD
 refine To.seq (To.code fun Kc hKc => ?_)
 unfold c88_12
 go_wp2
 exact hKc _ _ (To.ret Try.func88 rfl (results_tmp (t := 4) rfl _ _ _) ⟨gO, rv, rfl, hrv, HD.out, hOV, hgO, hB⟩)
end
noncomputable def c91_0 : Array Oper := (fun {c} (_ : rg Try.f91 0 = some c) => c) rfl
noncomputable def c91_1 : Array Oper := (fun {c} (_ : rg Try.f91 1 = some c) => c) rfl
noncomputable def b91 : Code := (.seq (.region 0 c91_0 false) (.seq (.region 1 c91_1 false) Code.ret))
theorem body91 : Try.f91.body = some b91 := by kernel_rfl
noncomputable def c113_0 : Array Oper := (fun {c} (_ : rg Try.f113 0 = some c) => c) rfl
noncomputable def c113_1 : Array Oper := (fun {c} (_ : rg Try.f113 1 = some c) => c) rfl
noncomputable def c113_2 : Array Oper := (fun {c} (_ : rg Try.f113 2 = some c) => c) rfl
noncomputable def c113_3 : Array Oper := (fun {c} (_ : rg Try.f113 3 = some c) => c) rfl
noncomputable def c113_4 : Array Oper := (fun {c} (_ : rg Try.f113 4 = some c) => c) rfl
noncomputable def c113_5 : Array Oper := (fun {c} (_ : rg Try.f113 5 = some c) => c) rfl
noncomputable def c113_6 : Array Oper := (fun {c} (_ : rg Try.f113 6 = some c) => c) rfl
noncomputable def l113_0 : Code := (.seq (.region 2 c113_2 false) (.seq (.cond (Operand.tmp 9) Code.skip (Code.exit 0)) (.seq (.block 1 (.seq (.region 3 c113_3 false) (.seq (.region 4 c113_4 false) (.cond (Operand.tmp 16) (.seq (.region 5 c113_5 false) Code.ret) Code.skip)))) (.region 6 c113_6 false))))
noncomputable def c113_7 : Array Oper := (fun {c} (_ : rg Try.f113 7 = some c) => c) rfl
noncomputable def b113 : Code := (.seq (.region 0 c113_0 false) (.seq (.seq (.region 1 c113_1 false) (.block 0 (.loop l113_0))) (.seq (.region 7 c113_7 false) Code.ret)))
theorem body113 : Try.f113.body = some b113 := by kernel_rfl
noncomputable def c90_0 : Array Oper := (fun {c} (_ : rg Try.f90 0 = some c) => c) rfl
noncomputable def c90_1 : Array Oper := (fun {c} (_ : rg Try.f90 1 = some c) => c) rfl
noncomputable def b90 : Code := (.seq (.region 0 c90_0 false) (.seq (.region 1 c90_1 false) Code.ret))
theorem body90 : Try.f90.body = some b90 := by kernel_rfl
structure NearAt (b0 : Nat) (V : World) (gN gW gO nh : Nat) (rv : List Value) (wt : Nat) (bs : List Bool) : Prop where
 near : V.heap[gN]? = some (.cells #[.slice (some ⟨gO, 0, none⟩) nh nh] 125 (0, 0))
 want : V.heap[gW]? = some (.cells #[.int .i64 (wt : Int)] 3 (0, 0))
 rows : V.heap[gO]? = some (.cells rv.toArray 129 (0, 0))
 lt : wt < nh
 row : ∃ v, rv[wt]? = some v ∧ RowB b0 gO V v bs
theorem calls91 {w : World} {b0 gN gW gO nh : Nat} {rv : List Value} {wt : Nat} {bs : List Bool} (h : NearAt b0 w gN gW gO nh rv wt bs) (i : Nat) (hi : i < bs.length) :
  Calls Try.prog 91 #[.int .i64 (i : Int), ptr gN, ptr gW] w fun e w' => ∃ v, e = .returned v ∧ v = .bool (bs.getD i false) ∧ w' = w := by
 refine calls_of_to (tmps := #[.int .i64 (i : Int), ptr gN, ptr gW, undef, undef, undef, undef, undef, undef, undef, undef, undef]) Try.func91 body91 (by kernel_rfl) fun cs => ?_
 obtain ⟨h1, h2, h3, hlt, v, hv, A, c, rfl, hrow⟩ := h
 obtain ⟨ad, e, hc, _⟩ := hrow i (bs.getD i false) (by rw [List.getD_eq_getElem?_getD, List.getElem?_eq_getElem hi]; rfl)
 subst e
 have n0 := blk_cell h1 0
 have w0 := blk_cell h2 0
 have r0 : w.cell? ⟨gO, wt, none⟩ = some (.slice (some ad) bs.length c) := by rw [blk_cell h3]; simpa using hv
 have hwl : (wt : Int) < (nh : Int) := by omega
 have hil : (i : Int) < (bs.length : Int) := by omega
 generalize bs.getD i false = q at hc ⊢
 unfold b91
 refine To.seq (To.code fun Kc hKc => ?_)
 unfold c91_0
 go_wp2
 refine hKc _ _ (To.seq (To.code fun Kc hKc => ?_))
 unfold c91_1
 go_wp2
 exact hKc _ _ (To.ret Try.func91 rfl (results_tmp rfl _ _ _) ⟨rfl, rfl⟩)
theorem calls113 {w : World} {b0 gN gW gO nh : Nat} {rv : List Value} {wt : Nat} {bs : List Bool} (h : NearAt b0 w gN gW gO nh rv wt bs) (A : Option Addr) (m c : Nat) (L : List Int) (hL : Kd.C (Kd.int .i64) w A m L) (hm : m ≤ 1000) (hin : ∀ x ∈ L, 0 ≤ x ∧ x < (bs.length : Int)) :
  Calls Try.prog 113 #[.slice A m c, .func (.func 91) #[] #[ptr gN, ptr gW]] w fun e w' => ∃ v, e = .returned v ∧ (∃ r : Int, v = .int .i64 r ∧ decide (0 ≤ r) = L.any fun x => bs.getD x.toNat false) ∧ w' = w := by
 refine calls_of_to (tmps := #[.slice A m c, .func (.func 91) #[] #[ptr gN, ptr gW], undef, undef, undef, undef, undef, undef, undef, undef, undef, undef, undef, undef, undef, undef, undef, undef, undef]) Try.func113 body113 (by kernel_rfl) fun cs => ?_
 have hlen : L.length = m := Kd.C_len hL
 unfold b113
 refine To.seq (To.code fun Kc hKc => ?_)
 unfold c113_0
 go_wp2
 refine hKc _ _ (To.seq (To.seq (To.code fun Kc hKc => ?_)))
 unfold c113_1
 go_wp2
 refine hKc _ _ (To.block (To.loop ?_))
 have key : ∀ (r i : Nat), i + r = m → ((L.drop i).any fun x => bs.getD x.toNat false) = (L.any fun x => bs.getD x.toNat false) → ∀ t2 t3 t4 t5 t6 t9 jG jA jD jH jE jB jF jI jC, To Try.prog cs (Out Try.prog 113 fun v w' => (∃ r : Int, v = .int .i64 r ∧ decide (0 ≤ r) = L.any fun x => bs.getD x.toNat false) ∧ w' = w) ((baseN 113).at ({ tmps := #[.slice A m c, .func (.func 91) #[] #[ptr gN, ptr gW], t2, t3, t4, t5, t6, .int .i64 m, .int .i64 i, t9, jG, jA, jD, jH, jE, jB, jF, jI, jC], defers := [] } : Act) [.code l113_0, .inLoop l113_0, .inBlock 0, .code (.seq (.region 7 c113_7 false) .ret)]) w := by
  intro r
  induction r with
  | zero =>
   intro i hi ho t2 t3 t4 t5 t6 t9 jG jA jD jH jE jB jF jI jC
   obtain rfl : i = m := by omega
   have hlt : ¬ ((i : Int) < (i : Int)) := by omega
   have HO : Hid _ := ho
   clear ho
   refine To.seq (To.code fun Kc hKc => ?_)
   unfold c113_2
   go_wp2
   refine hKc _ _ (To.seq (To.no rfl (To.exit rfl (To.seq (To.code fun Kc hKc => ?_)))))
   unfold c113_7
   go_wp2
   refine hKc _ _ (To.ret Try.func113 rfl (results_tmp rfl _ _ _) ⟨⟨-1, rfl, ?_⟩, rfl⟩)
   rw [← HO.out, List.drop_of_length_le (by omega)]
   rfl
  | succ r ih =>
   intro i hi ho t2 t3 t4 t5 t6 t9 jG jA jD jH jE jB jF jI jC
   replace ih : Hid _ := ih
   have HO : Hid _ := ho
   clear ho
   have hlt : (i : Int) < (m : Int) := by omega
   have hil : i < L.length := by omega
   obtain ⟨ad, e, hc⟩ := Kd.at_int hL (i : Int) (by omega) hlt
   subst e
   have hget : L[i]? = some (rd L i) := by
    rw [List.getElem?_eq_getElem hil]; simp [rd, List.getD_eq_getElem?_getD, hil]
   have hdrop : L.drop i = rd L i :: L.drop (i + 1) := by
    rw [List.drop_eq_getElem_cons hil]
    simp [rd, List.getD_eq_getElem?_getD, hil]
   have hx := hin _ (List.mem_of_getElem? hget)
   simp only [Int.toNat_natCast] at hc
   generalize rd L (i : Int) = x at hc hx hdrop
   obtain ⟨u, rfl⟩ := Int.eq_ofNat_of_zero_le hx.1
   have hu : u < bs.length := by omega
   have hany : ((L.drop i).any fun x => bs.getD x.toNat false) = (bs.getD u false || ((L.drop (i + 1)).any fun x => bs.getD x.toNat false)) := by
    rw [hdrop, List.any_cons]; rfl
   have C1 : Hid _ := calls91 h u hu
   have HA : Hid _ := hany
   clear hany hdrop hget
   generalize hq : bs.getD u false = q at C1 HA
   refine To.seq (To.code fun Kc hKc => ?_)
   unfold c113_2
   go_wp2
   refine hKc _ _ (To.seq (To.yes rfl (To.skip (To.seq (To.block (To.seq (To.code fun Kc hKc => ?_)))))))
   unfold c113_3
   go_wp2
   refine hKc _ _ (To.seq (To.code fun Kc hKc => ?_))
   unfold c113_4
   go_wp2_with (go_at_call 91; refine Calls.mono C1.out ?_; rintro e w' ⟨_, rfl, rfl, rfl⟩; dsimp only)
   cases q with
   | true =>
    refine hKc _ _ (To.yes rfl (To.seq (To.code fun Kc hKc => ?_)))
    unfold c113_5
    go_wp2
    refine hKc _ _ (To.ret Try.func113 rfl (results_tmp rfl _ _ _) ⟨⟨(i : Int), rfl, ?_⟩, rfl⟩)
    rw [← HO.out, HA.out, decide_eq_true (by omega)]
    rfl
   | false =>
    refine hKc _ _ (To.no rfl (To.skip (To.inBlock (To.code fun Kc hKc => ?_))))
    unfold c113_6
    go_wp2
    refine hKc _ _ (To.inLoop ?_)
    rw [show ((i : Int) + 1) = ((i + 1 : Nat) : Int) by omega]
    refine ih.out (i + 1) (by omega) ?_ _ _ _ _ _ _ _ _ _ _ _ _ _ _ _
    rw [← HO.out, HA.out]
    rfl
 exact key m 0 (by omega) rfl _ _ _ _ _ _ _ _ _ _ _ _ _ _ _
theorem calls90 {w : World} {b0 gN gW gO nh : Nat} {rv : List Value} {wt : Nat} {bs : List Bool} (h : NearAt b0 w gN gW gO nh rv wt bs) (A : Option Addr) (m c : Nat) (L : List Int) (hL : Kd.C (Kd.int .i64) w A m L) (hm : m ≤ 1000) (hin : ∀ x ∈ L, 0 ≤ x ∧ x < (bs.length : Int)) :
  Calls Try.prog 90 #[.slice A m c, .func (.func 91) #[] #[ptr gN, ptr gW]] w fun e w' => ∃ v, e = .returned v ∧ v = .bool (L.any fun x => bs.getD x.toNat false) ∧ w' = w := by
 refine calls_of_to (tmps := #[.slice A m c, .func (.func 91) #[] #[ptr gN, ptr gW], undef, undef, undef, undef, undef, undef, undef]) Try.func90 body90 (by kernel_rfl) fun cs => ?_
 have C1 : Hid _ := calls113 h A m c L hL hm hin
 unfold b90
 refine To.seq (To.code fun Kc hKc => ?_)
 unfold c90_0
 go_wp2
 refine hKc _ _ (To.seq (To.code fun Kc hKc => ?_))
 generalize (L.any fun x => bs.getD x.toNat false) = q at C1 hKc
 unfold c90_1
 go_wp2_with (go_at_call 113; refine Calls.mono C1.out ?_; rintro e w' ⟨_, rfl, ⟨r, rfl, hr⟩, rfl⟩; dsimp only)
 refine hKc _ _ (To.ret Try.func90 rfl (results_tmp rfl _ _ _) ⟨rfl, rfl⟩)
noncomputable def c87_0 : Array Oper := (fun {c} (_ : rg Try.f87 0 = some c) => c) rfl
noncomputable def c87_1 : Array Oper := (fun {c} (_ : rg Try.f87 1 = some c) => c) rfl
noncomputable def b87 : Code := (.seq (.region 0 c87_0 false) (.seq (.region 1 c87_1 true) Code.ret))
theorem body87 : Try.f87.body = some b87 := by kernel_rfl
def ordFound (x y : Hand) : Int := orL [cmpI x.price y.price, cmpI x.cards.length y.cards.length, cmpL x.cards y.cards]
theorem calls87 (x y : Hand) (A B : Option Addr) (c d : Nat) (w : World) (hx : Kd.C (Kd.int .i64) w A x.cards.length x.cards) (hy : Kd.C (Kd.int .i64) w B y.cards.length y.cards) :
  Calls Try.prog 87 #[.agg (handV x A c), .agg (handV y B d)] w fun e w' => ∃ v, e = .returned v ∧ v = .int .i64 (ordFound x y) ∧ Below w.heap.size w w' := by
 refine calls_of_to (tmps := #[.agg (handV x A c), .agg (handV y B d), undef, undef, undef, undef, undef, undef, undef, undef, undef, undef, undef, undef, undef, undef, undef, undef, undef, undef, undef, undef, undef, undef]) Try.func87 body87 (by kernel_rfl) fun cs => ?_
 unfold b87
 refine To.seq (To.code fun Kc hKc => ?_)
 unfold c87_0
 go_wp2
 have hbox := heap_alloc_new w (.cells (handV x A c) 110)
 have hbox := (Below.heap_alloc (w.alloc (.cells (handV x A c) 110)) (.cells (handV y B d) 110) w.heap.size (by simp)).trans hbox
 have hbox2 := heap_alloc_new (w.alloc (.cells (handV x A c) 110)) (.cells (handV y B d) 110)
 have hs : (w.alloc (.cells (handV x A c) 110)).heap.size = w.heap.size + 1 := by simp
 rw [hs] at hbox2
 have hb : Below w.heap.size w ((w.alloc (.cells (handV x A c) 110)).alloc (.cells (handV y B d) 110)) := ((Below.refl _ _).alloc (Nat.le_refl _) _).alloc (by simp) _
 generalize (w.alloc (.cells (handV x A c) 110)).alloc (.cells (handV y B d) 110) = W at hbox hbox2 hb ⊢
 refine hKc _ _ (To.seq (To.code fun Kc hKc => ?_))
 have f0 : ∀ W', Below W.heap.size W W' → W'.cell? ⟨w.heap.size, 0, none⟩ = some (.slice A x.cards.length c) := fun W' h => (blk_cell ((h.block _ (blk_lt hbox)).trans hbox) 0)
 have f1 : ∀ W', Below W.heap.size W W' → W'.cell? ⟨w.heap.size, 1, none⟩ = some (.int .i64 x.lines) := fun W' h => (blk_cell ((h.block _ (blk_lt hbox)).trans hbox) 1)
 have f2 : ∀ W', Below W.heap.size W W' → W'.cell? ⟨w.heap.size, 2, none⟩ = some (.int .i64 x.price) := fun W' h => (blk_cell ((h.block _ (blk_lt hbox)).trans hbox) 2)
 have g0 : ∀ W', Below W.heap.size W W' → W'.cell? ⟨w.heap.size + 1, 0, none⟩ = some (.slice B y.cards.length d) := fun W' h => (blk_cell ((h.block _ (blk_lt hbox2)).trans hbox2) 0)
 have g1 : ∀ W', Below W.heap.size W W' → W'.cell? ⟨w.heap.size + 1, 1, none⟩ = some (.int .i64 y.lines) := fun W' h => (blk_cell ((h.block _ (blk_lt hbox2)).trans hbox2) 1)
 have g2 : ∀ W', Below W.heap.size W W' → W'.cell? ⟨w.heap.size + 1, 2, none⟩ = some (.int .i64 y.price) := fun W' h => (blk_cell ((h.block _ (blk_lt hbox2)).trans hbox2) 2)
 have hxC : ∀ W', Below W.heap.size W W' → Kd.C (Kd.int .i64) W' A x.cards.length x.cards := fun W' h => Kd.C_below hx (hb.trans (h.mono hb.size))
 have hyC : ∀ W', Below W.heap.size W W' → Kd.C (Kd.int .i64) W' B y.cards.length y.cards := fun W' h => Kd.C_below hy (hb.trans (h.mono hb.size))
 have hfin : ∀ W', Below W.heap.size W W' → Below w.heap.size w W' := fun W' h => hb.trans (h.mono hb.size)
 have hrefl : Below W.heap.size W W := Below.refl _ _
 clear hbox hbox2 hb hx hy
 unfold c87_1
 dsimp only
 go_region_held3 (fun w' => Below W.heap.size W w') (first | exact Below.drew (by assumption) | exact Below.alloc (by assumption) (Below.size (by assumption)) _ | assumption) (first | (go_at_call 77; refine Calls.mono (calls77 _ _ _) ?_; rintro e w' ⟨_, rfl, rfl, rfl⟩) | (go_at_call 78; refine Calls.mono (calls78 _ _ _ _ _ _ _ _ _ (hxC _ (by assumption)) (hyC _ (by assumption))) ?_; rintro e w' ⟨_, rfl, rfl, rfl⟩) | (go_at_call 76; refine Calls.mono (calls76 _ 3 3 [cmpI x.price y.price, cmpI x.cards.length y.cards.length, cmpL x.cards y.cards] _ (kd_three _ _ _ _)) ?_; rintro e w' ⟨_, rfl, rfl, rfl⟩))
 exact hKc _ _ (To.ret Try.func87 rfl (results_tmp rfl _ _ _) ⟨rfl, hfin _ (by assumption)⟩)
theorem calls80f (o : Option (Hand × Option Addr × Nat)) (x : Hand) (A : Option Addr) (c : Nat) (w : World) (B : Nat) (hB : w.heap[B]? = some (.cells (bestV o (.func (.func 87) #[] #[])) 114 (0, 0))) (ho : BestC w o) (hx : Kd.C (Kd.int .i64) w A x.cards.length x.cards) :
  Calls Try.prog 80 #[ptr B, .agg (handV x A c)] w fun e w' => ∃ v, e = .returned v ∧ w.grownBy w' (some B) ∧ w'.heap[B]? = some (.cells (bestV (if better ordFound x o then some (x, A, c) else o) (.func (.func 87) #[] #[])) 114 (0, 0)) := by
 refine calls_of_to (tmps := #[ptr B, .agg (handV x A c), undef, undef, undef, undef, undef, undef, undef, undef, undef, undef, undef, undef, undef, undef, undef, undef, undef, undef, undef, undef, undef, undef, undef, undef, undef, undef, undef]) Try.func80 body80 (by kernel_rfl) fun cs => ?_
 unfold b80
 refine To.seq (To.code fun Kc hKc => ?_)
 unfold c80_0
 go_wp2
 have hbox := heap_alloc_new w (.cells (handV x A c) 110)
 replace hB := (Below.heap_alloc w (.cells (handV x A c) 110) B (blk_lt hB)).trans hB
 have hb : Below w.heap.size w (w.alloc (.cells (handV x A c) 110)) := (Below.refl _ _).alloc (Nat.le_refl _) _
 generalize w.alloc (.cells (handV x A c) 110) = W at hbox hB hb ⊢
 refine hKc _ _ (To.seq (To.code fun Kc hKc => ?_))
 have hfin : ∀ W', Below W.heap.size W W' → Below w.heap.size w W' := fun W' h => hb.trans (h.mono hb.size)
 have hrefl : Below W.heap.size W W := Below.refl _ _
 have e0 : ∀ W', Below W.heap.size W W' → W'.cell? ⟨w.heap.size, 0, none⟩ = some (.slice A x.cards.length c) := fun W' h => (blk_cell ((h.block _ (blk_lt hbox)).trans hbox) 0)
 have e1 : ∀ W', Below W.heap.size W W' → W'.cell? ⟨w.heap.size, 1, none⟩ = some (.int .i64 x.lines) := fun W' h => (blk_cell ((h.block _ (blk_lt hbox)).trans hbox) 1)
 have e2 : ∀ W', Below W.heap.size W W' → W'.cell? ⟨w.heap.size, 2, none⟩ = some (.int .i64 x.price) := fun W' h => (blk_cell ((h.block _ (blk_lt hbox)).trans hbox) 2)
 have hxC : ∀ W', Below W.heap.size W W' → Kd.C (Kd.int .i64) W' A x.cards.length x.cards := fun W' h => Kd.C_below hx (hb.trans (h.mono hb.size))
 cases o with
 | none =>
  have b3 : ∀ W', Below W.heap.size W W' → W'.cell? ⟨B, 3, none⟩ = some (.bool false) := fun W' h => (blk_cell ((h.block _ (blk_lt hB)).trans hB) 3)
  unfold c80_1
  refine wp_region_held_drew (S := fun w' => Below W.heap.size W w') (by kernel_rfl) (Below.drew hrefl) fun hS => ?_
  refine tk 0 ⟨some 4, .move (.tmp 0), 145, "fill.go:20", #[], none⟩ (ptr B) (.inl ⟨by rfl, fun w hw => by go_simp⟩) hS ?_
  try simp only [pt]
  refine tk 1 ⟨some 5, .nilCheck (.tmp 4), 0, "fill.go:20", #[⟨0, .data⟩], none⟩ (ptr B) (.inl ⟨by rfl, fun w hw => by go_simp⟩) hS ?_
  try simp only [pt]
  refine tk 2 ⟨some 6, .fieldAddr 114 (.tmp 5) 1, 0, "fill.go:20", #[⟨1, .data⟩], none⟩ (.pointer (some ⟨B, 3, none⟩)) (.inl ⟨by rfl, fun w hw => by go_simp⟩) hS ?_
  try simp only [pt]
  refine tk 3 ⟨some 7, .load 4 (.tmp 6), 4, "fill.go:20", #[⟨2, .data⟩], none⟩ (.bool false) (.inl ⟨by rfl, fun w hw => by go_simp⟩) hS ?_
  try simp only [pt]
  refine tk 4 ⟨some 8, .unOp .not 4 (.tmp 7), 4, "fill.go:20", #[⟨3, .data⟩], none⟩ (.bool true) (.inl ⟨by rfl, fun w hw => by go_simp⟩) hS ?_
  try simp only [pt]
  refine tk 5 ⟨some 9, .move (.tmp 8), 4, "fill.go:20", #[⟨4, .data⟩], none⟩ (.bool true) (.inl ⟨by rfl, fun w hw => by go_simp⟩) hS ?_
  try simp only [pt]
  refine tk 6 ⟨some 10, .move (.tmp 0), 145, "fill.go:20", #[⟨5, .guard⟩], some (5, false)⟩ undef (.inr ⟨by rfl, rfl⟩) hS ?_
  try simp only [pt]
  refine tk 7 ⟨some 11, .nilCheck (.tmp 10), 0, "fill.go:20", #[⟨6, .data⟩, ⟨5, .guard⟩], some (5, false)⟩ undef (.inr ⟨by rfl, rfl⟩) hS ?_
  try simp only [pt]
  refine tk 8 ⟨some 12, .fieldAddr 114 (.tmp 11) 2, 0, "fill.go:20", #[⟨7, .data⟩, ⟨5, .guard⟩], some (5, false)⟩ undef (.inr ⟨by rfl, rfl⟩) hS ?_
  try simp only [pt]
  refine tk 9 ⟨some 13, .load 112 (.tmp 12), 112, "fill.go:20", #[⟨8, .data⟩, ⟨5, .guard⟩], some (5, false)⟩ undef (.inr ⟨by rfl, rfl⟩) hS ?_
  try simp only [pt]
  refine tk 10 ⟨some 14, .load 110 (.tmp 3), 110, "fill.go:20", #[⟨5, .guard⟩], some (5, false)⟩ undef (.inr ⟨by rfl, rfl⟩) hS ?_
  try simp only [pt]
  refine tk 11 ⟨some 15, .move (.tmp 0), 145, "fill.go:20", #[⟨5, .guard⟩], some (5, false)⟩ undef (.inr ⟨by rfl, rfl⟩) hS ?_
  try simp only [pt]
  refine tk 12 ⟨some 16, .nilCheck (.tmp 15), 0, "fill.go:20", #[⟨11, .data⟩, ⟨5, .guard⟩], some (5, false)⟩ undef (.inr ⟨by rfl, rfl⟩) hS ?_
  try simp only [pt]
  refine tk 13 ⟨some 17, .fieldAddr 114 (.tmp 16) 0, 0, "fill.go:20", #[⟨12, .data⟩, ⟨5, .guard⟩], some (5, false)⟩ undef (.inr ⟨by rfl, rfl⟩) hS ?_
  try simp only [pt]
  refine tk 14 ⟨some 18, .load 110 (.tmp 17), 110, "fill.go:20", #[⟨13, .data⟩, ⟨5, .guard⟩], some (5, false)⟩ undef (.inr ⟨by rfl, rfl⟩) hS ?_
  try simp only [pt]
  refine tk 15 ⟨some 19, .call ⟨.value (.tmp 13), #[.tmp 14, .tmp 18], #[110, 110]⟩, 3, "fill.go:20", #[⟨9, .data⟩, ⟨10, .data⟩, ⟨14, .data⟩, ⟨5, .chain⟩, ⟨5, .guard⟩], some (5, false)⟩ undef (.inr ⟨by rfl, rfl⟩) hS ?_
  try simp only [pt]
  refine tk 16 ⟨some 20, .binOp .lss 3 (.tmp 19) (.const (.int .i64 0)) 3, 4, "fill.go:20", #[⟨15, .data⟩, ⟨5, .guard⟩], some (5, false)⟩ undef (.inr ⟨by rfl, rfl⟩) hS ?_
  try simp only [pt]
  refine tk 17 ⟨some 21, .pick (.tmp 9) (.const (.bool true)) (.tmp 20), 4, "fill.go:20", #[⟨5, .data⟩, ⟨16, .data⟩], none⟩ (.bool true) (.inl ⟨by rfl, fun w hw => by go_simp⟩) hS ?_
  try simp only [pt]
  refine wpAnyH_done (by kernel_rfl) ?_ _
  refine hKc _ _ (To.yes rfl ((tail80 _ _ _ _ _ x A c _ B w.heap.size ((hS.block _ (blk_lt hB)).trans hB) ((hS.block _ (blk_lt hbox)).trans hbox) _ _ _ _ _ _ _ _ _ _ _ _ _ _ _ _ _ _ _ _ _ _ _ _ _ _ _).mono fun fr w' h => ?_))
  obtain ⟨q1, v, q2, q3, q4⟩ := h
  exact ⟨q1, v, q2, grown_trans' (grown_below (hfin _ hS)) q3, q4⟩
 | some q =>
  obtain ⟨y, A2, c2⟩ := q
  have hyC : ∀ W', Below W.heap.size W W' → Kd.C (Kd.int .i64) W' A2 y.cards.length y.cards := fun W' h => Kd.C_below (ho _ _ _ rfl) (hb.trans (h.mono hb.size))
  have b0 : ∀ W', Below W.heap.size W W' → W'.cell? ⟨B, 0, none⟩ = some (.slice A2 y.cards.length c2) := fun W' h => (blk_cell ((h.block _ (blk_lt hB)).trans hB) 0)
  have b1 : ∀ W', Below W.heap.size W W' → W'.cell? ⟨B, 1, none⟩ = some (.int .i64 y.lines) := fun W' h => (blk_cell ((h.block _ (blk_lt hB)).trans hB) 1)
  have b2 : ∀ W', Below W.heap.size W W' → W'.cell? ⟨B, 2, none⟩ = some (.int .i64 y.price) := fun W' h => (blk_cell ((h.block _ (blk_lt hB)).trans hB) 2)
  have b3 : ∀ W', Below W.heap.size W W' → W'.cell? ⟨B, 3, none⟩ = some (.bool true) := fun W' h => (blk_cell ((h.block _ (blk_lt hB)).trans hB) 3)
  have b4 : ∀ W', Below W.heap.size W W' → W'.cell? ⟨B, 4, none⟩ = some (.func (.func 87) #[] #[]) := fun W' h => (blk_cell ((h.block _ (blk_lt hB)).trans hB) 4)
  unfold c80_1
  dsimp only
  go_region_held3 (fun w' => Below W.heap.size W w') (first | exact Below.drew (by assumption) | assumption) (first | (go_at_call 87; refine Calls.mono (calls87 x y A A2 c c2 _ (hxC _ (by assumption)) (hyC _ (by assumption))) ?_; rintro e w' ⟨_, rfl, rfl, hb'⟩; replace hb' := below_then ‹Below W.heap.size W _› (Below.size ‹Below W.heap.size W _›) hb'))
  have hS := ‹Below W.heap.size W _›
  by_cases hlt : ordFound x y < 0
  ·refine hKc _ _ (To.yes (show Value.bool (decide (ordFound x y < 0)) = .bool true by rw [decide_eq_true hlt]) ((tail80 _ _ _ _ _ x A c _ B w.heap.size ((hS.block _ (blk_lt hB)).trans hB) ((hS.block _ (blk_lt hbox)).trans hbox) _ _ _ _ _ _ _ _ _ _ _ _ _ _ _ _ _ _ _ _ _ _ _ _ _ _ _).mono fun fr w' h => ?_))
   obtain ⟨q1, v, q2, q3, q4⟩ := h
   refine ⟨q1, v, q2, grown_trans' (grown_below (hfin _ hS)) q3, ?_⟩
   rw [if_pos (by simp [better, hlt])]
   exact q4
  ·refine hKc _ _ (To.no (show Value.bool (decide (ordFound x y < 0)) = .bool false by rw [decide_eq_false hlt]) (To.skip (To.fall (v := .tuple #[]) Try.func80 rfl (results_none rfl _ _ _) ⟨grown_below (hfin _ hS), ?_⟩)))
   rw [if_neg (by simp [better, hlt])]
   exact (hS.block _ (blk_lt hB)).trans hB
section
variable {P : Program} {cs : List Frame} {X : Frame → World → Prop} {b : Frame} {a : Act} {k : List Item} {w : World}
theorem To.scope {x : Code} (h : To P cs X (b.at a (.code x :: .inScope x :: k)) w) : To P cs X (b.at a (.code (.scope x) :: k)) w := h.go (es := #[]) (by simp [G, stepG, stepG.exec, Frame.at])
theorem To.label {l : Nat} (h : To P cs X (b.at a k) w) : To P cs X (b.at a (.code (.label l) :: k)) w := h.go stepG_label
end
noncomputable def c40_0 : Array Oper := (fun {c} (_ : rg Try.f40 0 = some c) => c) rfl
noncomputable def c40_1 : Array Oper := (fun {c} (_ : rg Try.f40 1 = some c) => c) rfl
noncomputable def c40_2 : Array Oper := (fun {c} (_ : rg Try.f40 2 = some c) => c) rfl
noncomputable def c40_3 : Array Oper := (fun {c} (_ : rg Try.f40 3 = some c) => c) rfl
noncomputable def c40_4 : Array Oper := (fun {c} (_ : rg Try.f40 4 = some c) => c) rfl
noncomputable def c40_5 : Array Oper := (fun {c} (_ : rg Try.f40 5 = some c) => c) rfl
noncomputable def c40_6 : Array Oper := (fun {c} (_ : rg Try.f40 6 = some c) => c) rfl
noncomputable def c40_7 : Array Oper := (fun {c} (_ : rg Try.f40 7 = some c) => c) rfl
noncomputable def c40_8 : Array Oper := (fun {c} (_ : rg Try.f40 8 = some c) => c) rfl
noncomputable def c40_9 : Array Oper := (fun {c} (_ : rg Try.f40 9 = some c) => c) rfl
noncomputable def c40_10 : Array Oper := (fun {c} (_ : rg Try.f40 10 = some c) => c) rfl
noncomputable def c40_11 : Array Oper := (fun {c} (_ : rg Try.f40 11 = some c) => c) rfl
noncomputable def c40_12 : Array Oper := (fun {c} (_ : rg Try.f40 12 = some c) => c) rfl
noncomputable def c40_13 : Array Oper := (fun {c} (_ : rg Try.f40 13 = some c) => c) rfl
noncomputable def l40_0 : Code := (.seq (.region 9 c40_9 false) (.seq (.cond (Operand.tmp 44) Code.skip (Code.exit 0)) (.seq (.block 1 (.seq (.region 10 c40_10 false) (.seq (.region 11 c40_11 false) (.cond (Operand.tmp 49) (.seq (.region 12 c40_12 false) Code.ret) Code.skip)))) (.region 13 c40_13 false))))
noncomputable def c40_14 : Array Oper := (fun {c} (_ : rg Try.f40 14 = some c) => c) rfl
noncomputable def c40_15 : Array Oper := (fun {c} (_ : rg Try.f40 15 = some c) => c) rfl
noncomputable def c40_16 : Array Oper := (fun {c} (_ : rg Try.f40 16 = some c) => c) rfl
noncomputable def c40_17 : Array Oper := (fun {c} (_ : rg Try.f40 17 = some c) => c) rfl
noncomputable def c40_18 : Array Oper := (fun {c} (_ : rg Try.f40 18 = some c) => c) rfl
noncomputable def c40_19 : Array Oper := (fun {c} (_ : rg Try.f40 19 = some c) => c) rfl
noncomputable def l40_1 : Code := (.seq (.region 15 c40_15 false) (.seq (.cond (Operand.tmp 54) Code.skip (Code.exit 2)) (.seq (.block 3 (.seq (.region 16 c40_16 false) (.seq (.region 17 c40_17 false) (.cond (Operand.tmp 63) (.seq (.region 18 c40_18 false) Code.ret) Code.skip)))) (.region 19 c40_19 false))))
noncomputable def c40_20 : Array Oper := (fun {c} (_ : rg Try.f40 20 = some c) => c) rfl
noncomputable def c40_21 : Array Oper := (fun {c} (_ : rg Try.f40 21 = some c) => c) rfl
noncomputable def c40_22 : Array Oper := (fun {c} (_ : rg Try.f40 22 = some c) => c) rfl
noncomputable def c40_23 : Array Oper := (fun {c} (_ : rg Try.f40 23 = some c) => c) rfl
noncomputable def c40_24 : Array Oper := (fun {c} (_ : rg Try.f40 24 = some c) => c) rfl
noncomputable def c40_25 : Array Oper := (fun {c} (_ : rg Try.f40 25 = some c) => c) rfl
noncomputable def c40_26 : Array Oper := (fun {c} (_ : rg Try.f40 26 = some c) => c) rfl
noncomputable def c40_27 : Array Oper := (fun {c} (_ : rg Try.f40 27 = some c) => c) rfl
noncomputable def c40_28 : Array Oper := (fun {c} (_ : rg Try.f40 28 = some c) => c) rfl
noncomputable def c40_29 : Array Oper := (fun {c} (_ : rg Try.f40 29 = some c) => c) rfl
noncomputable def c40_30 : Array Oper := (fun {c} (_ : rg Try.f40 30 = some c) => c) rfl
noncomputable def c40_31 : Array Oper := (fun {c} (_ : rg Try.f40 31 = some c) => c) rfl
noncomputable def c40_32 : Array Oper := (fun {c} (_ : rg Try.f40 32 = some c) => c) rfl
noncomputable def c40_33 : Array Oper := (fun {c} (_ : rg Try.f40 33 = some c) => c) rfl
noncomputable def l40_3 : Code := (.seq (.region 29 c40_29 false) (.seq (.cond (Operand.tmp 90) Code.skip (Code.exit 6)) (.seq (.block 7 (.seq (.region 30 c40_30 false) (.seq (.seq (.region 31 c40_31 false) (.cond (Operand.tmp 99) (Code.exit 5) Code.skip)) (.region 32 c40_32 true)))) (.region 33 c40_33 false))))
noncomputable def c40_34 : Array Oper := (fun {c} (_ : rg Try.f40 34 = some c) => c) rfl
noncomputable def c40_35 : Array Oper := (fun {c} (_ : rg Try.f40 35 = some c) => c) rfl
noncomputable def c40_36 : Array Oper := (fun {c} (_ : rg Try.f40 36 = some c) => c) rfl
noncomputable def c40_37 : Array Oper := (fun {c} (_ : rg Try.f40 37 = some c) => c) rfl
noncomputable def c40_38 : Array Oper := (fun {c} (_ : rg Try.f40 38 = some c) => c) rfl
noncomputable def l40_4 : Code := (.seq (.region 35 c40_35 false) (.seq (.cond (Operand.tmp 112) Code.skip (Code.exit 8)) (.seq (.block 9 (.seq (.region 36 c40_36 false) (.seq (.region 37 c40_37 false) (.cond (Operand.tmp 119) (Code.exit 5) Code.skip)))) (.region 38 c40_38 false))))
noncomputable def c40_39 : Array Oper := (fun {c} (_ : rg Try.f40 39 = some c) => c) rfl
noncomputable def c40_40 : Array Oper := (fun {c} (_ : rg Try.f40 40 = some c) => c) rfl
noncomputable def l40_2 : Code := (.seq (.region 25 c40_25 false) (.seq (.cond (Operand.tmp 77) Code.skip (Code.exit 4)) (.seq (.block 5 (.seq (.region 26 c40_26 false) (.seq (.region 27 c40_27 false) (.seq (.seq (.region 28 c40_28 false) (.block 6 (.loop l40_3))) (.seq (.seq (.region 34 c40_34 false) (.block 8 (.loop l40_4))) (.region 39 c40_39 false)))))) (.region 40 c40_40 false))))
noncomputable def c40_41 : Array Oper := (fun {c} (_ : rg Try.f40 41 = some c) => c) rfl
noncomputable def c40_42 : Array Oper := (fun {c} (_ : rg Try.f40 42 = some c) => c) rfl
noncomputable def c40_43 : Array Oper := (fun {c} (_ : rg Try.f40 43 = some c) => c) rfl
noncomputable def b40 : Code := (.seq (.region 0 c40_0 false) (.scope (.seq (.seq (.region 1 c40_1 false) (.seq (.region 2 c40_2 false) (.cond (Operand.tmp 27) (.seq (.region 3 c40_3 false) Code.ret) Code.skip))) (.seq (.seq (.region 4 c40_4 false) (.cond (Operand.tmp 34) (.seq (.region 5 c40_5 false) Code.ret) Code.skip)) (.seq (.seq (.region 6 c40_6 false) (.cond (Operand.tmp 40) (.seq (.region 7 c40_7 false) Code.ret) Code.skip)) (.seq (.seq (.region 8 c40_8 false) (.block 0 (.loop l40_0))) (.seq (.seq (.region 14 c40_14 false) (.block 2 (.loop l40_1))) (.seq (.seq (.region 20 c40_20 false) (.cond (Operand.tmp 67) (.seq (.region 21 c40_21 false) Code.ret) Code.skip)) (.seq (.region 22 c40_22 false) (.seq (.region 23 c40_23 false) (.seq (Code.label 0) (.seq (.seq (.region 24 c40_24 false) (.block 4 (.loop l40_2))) (.seq (.seq (.region 41 c40_41 false) (.cond (Operand.tmp 126) (.seq (.region 42 c40_42 false) Code.ret) Code.skip)) (.seq (.region 43 c40_43 true) Code.ret))))))))))))))
theorem body40 : Try.f40.body = some b40 := by kernel_rfl
section
variable {cs : List Frame} {Y : Frame → World → Prop} {K : List Item}
theorem loopp40 {w : World} (A : Option Addr) (n c : Nat) (l : List Int) (hr : Kd.C (Kd.int .i64) w A n l) (hv : ∀ x ∈ l, 0 ≤ x ∧ x ≤ 999) (v1 v2 v3 v4 : Value)
  (hend : ∀ t0 t5 t6 t7 t8 t9 jC jA jB jD yX yC yH xL qW zD yO yY qF yZ yW xB yF jF jP qB qE zA qC yQ qX qS zF zH jT qV xD zS zN zP yT qH yS qI xZ zM jV zR zQ zO jS xC xE yM zB xF zI zL qN jY xS jQ qJ yN xA qR yP yJ xG qG xW yI zG xO qK xJ jW qP qT zC xT xY zJ qD xP xM yD jI qZ xK zE xR xN yU xX jL yA qU jJ qA jO jK yK yG jE qY yV jX jZ jG qO jH qM zK yE yB xQ qQ xI xH jM jN qL xU yL xV yR jR jU V, Below w.heap.size w V → To Try.prog cs Y ((baseN 40).at ({ tmps := #[t0, v1, v2, v3, v4, t5, t6, t7, t8, t9, jC, jA, jB, jD, yX, yC, yH, xL, qW, zD, yO, yY, qF, yZ, yW, xB, yF, jF, jP, qB, qE, zA, qC, yQ, qX, qS, zF, zH, jT, qV, xD, zS, zN, zP, yT, qH, yS, qI, xZ, zM, jV, zR, zQ, zO, jS, xC, xE, yM, zB, xF, zI, zL, qN, jY, xS, jQ, qJ, yN, xA, qR, yP, yJ, xG, qG, xW, yI, zG, xO, qK, xJ, jW, qP, qT, zC, xT, xY, zJ, qD, xP, xM, yD, jI, qZ, xK, zE, xR, xN, yU, xX, jL, yA, qU, jJ, qA, jO, jK, yK, yG, jE, qY, yV, jX, jZ, jG, qO, jH, qM, zK, yE, yB, xQ, qQ, xI, xH, jM, jN, qL, xU, yL, xV, yR, jR, jU], defers := [] } : Act) K) V) :
  ∀ (r i : Nat), i + r = n → ∀ t0 t5 t6 t7 t8 t9 jC jA jB jD yX yC yH xL qW zD yO yY qF yZ yW xB yF jF jP qB qE zA qC yQ qX qS zF zH jT qV xD yT qH yS qI xZ zM jV zR zQ zO jS xC xE yM zB xF zI zL qN jY xS jQ qJ yN xA qR yP yJ xG qG xW yI zG xO qK xJ jW qP qT zC xT xY zJ qD xP xM yD jI qZ xK zE xR xN yU xX jL yA qU jJ qA jO jK yK yG jE qY yV jX jZ jG qO jH qM zK yE yB xQ qQ xI xH jM jN qL xU yL xV yR jR jU V, Below w.heap.size w V → To Try.prog cs Y ((baseN 40).at ({ tmps := #[t0, v1, v2, v3, v4, t5, t6, t7, t8, t9, jC, jA, jB, jD, yX, yC, yH, xL, qW, zD, yO, yY, qF, yZ, yW, xB, yF, jF, jP, qB, qE, zA, qC, yQ, qX, qS, zF, zH, jT, qV, xD, .slice A n c, .int .i64 n, .int .i64 i, yT, qH, yS, qI, xZ, zM, jV, zR, zQ, zO, jS, xC, xE, yM, zB, xF, zI, zL, qN, jY, xS, jQ, qJ, yN, xA, qR, yP, yJ, xG, qG, xW, yI, zG, xO, qK, xJ, jW, qP, qT, zC, xT, xY, zJ, qD, xP, xM, yD, jI, qZ, xK, zE, xR, xN, yU, xX, jL, yA, qU, jJ, qA, jO, jK, yK, yG, jE, qY, yV, jX, jZ, jG, qO, jH, qM, zK, yE, yB, xQ, qQ, xI, xH, jM, jN, qL, xU, yL, xV, yR, jR, jU], defers := [] } : Act) (.code l40_0 :: .inLoop l40_0 :: .inBlock 0 :: K)) V := by
 intro r
 have hlen : l.length = n := Kd.C_len hr
 have hmax := Kd.C_max hr
 dsimp only at hend ⊢
 induction r with
 | zero =>
  intro i hi t0 t5 t6 t7 t8 t9 jC jA jB jD yX yC yH xL qW zD yO yY qF yZ yW xB yF jF jP qB qE zA qC yQ qX qS zF zH jT qV xD yT qH yS qI xZ zM jV zR zQ zO jS xC xE yM zB xF zI zL qN jY xS jQ qJ yN xA qR yP yJ xG qG xW yI zG xO qK xJ jW qP qT zC xT xY zJ qD xP xM yD jI qZ xK zE xR xN yU xX jL yA qU jJ qA jO jK yK yG jE qY yV jX jZ jG qO jH qM zK yE yB xQ qQ xI xH jM jN qL xU yL xV yR jR jU V hB
  obtain rfl : i = n := by omega
  have hlt : ¬ ((i : Int) < (i : Int)) := by omega
  refine To.seq (To.code fun Kc hKc => ?_)
  unfold c40_9
  go_wp2
  exact hKc _ _ (To.seq (To.no rfl (To.exit rfl (hend _ _ _ _ _ _ _ _ _ _ _ _ _ _ _ _ _ _ _ _ _ _ _ _ _ _ _ _ _ _ _ _ _ _ _ _ _ _ _ _ _ _ _ _ _ _ _ _ _ _ _ _ _ _ _ _ _ _ _ _ _ _ _ _ _ _ _ _ _ _ _ _ _ _ _ _ _ _ _ _ _ _ _ _ _ _ _ _ _ _ _ _ _ _ _ _ _ _ _ _ _ _ _ _ _ _ _ _ _ _ _ _ _ _ _ _ _ _ _ _ _ _ _ _ _ _ _ _ _ V hB))))
 | succ r ih =>
  intro i hi t0 t5 t6 t7 t8 t9 jC jA jB jD yX yC yH xL qW zD yO yY qF yZ yW xB yF jF jP qB qE zA qC yQ qX qS zF zH jT qV xD yT qH yS qI xZ zM jV zR zQ zO jS xC xE yM zB xF zI zL qN jY xS jQ qJ yN xA qR yP yJ xG qG xW yI zG xO qK xJ jW qP qT zC xT xY zJ qD xP xM yD jI qZ xK zE xR xN yU xX jL yA qU jJ qA jO jK yK yG jE qY yV jX jZ jG qO jH qM zK yE yB xQ qQ xI xH jM jN qL xU yL xV yR jR jU V hB
  try dsimp only at ih
  replace ih : Hid _ := ih
  have HE : Hid _ := hend
  clear hend
  have hlt : (i : Int) < (n : Int) := by omega
  have hil : i < l.length := by omega
  obtain ⟨ad, e, hc⟩ := Kd.at_int (Kd.C_below hr hB) (i : Int) (by omega) hlt
  subst e
  have hx := hv (rd l (i : Int)) (by
   have : rd l (i : Int) = l[i] := by simp [rd, List.getD_eq_getElem?_getD, hil]
   rw [this]; exact List.getElem_mem hil)
  simp only [Int.toNat_natCast] at hc
  generalize rd l (i : Int) = x at hc hx
  refine To.seq (To.code fun Kc hKc => ?_)
  unfold c40_9
  go_wp2
  refine hKc _ _ (To.seq (To.yes rfl (To.skip (To.seq (To.block (To.seq (To.code fun Kc hKc => ?_)))))))
  unfold c40_10
  go_wp2
  refine hKc _ _ (To.seq (To.code fun Kc hKc => ?_))
  have hb61 := between61 x 0 999 V
  rw [decide_eq_true hx] at hb61
  have C1 : Hid _ := hb61
  clear hb61
  unfold c40_11
  go_wp2_with (go_at_call 61; refine Calls.mono C1.out ?_; rintro e V2 ⟨rfl, hb2⟩; dsimp only)
  refine hKc _ _ (To.no rfl (To.skip (To.inBlock (To.code fun Kc hKc => ?_))))
  unfold c40_13
  go_wp2
  refine hKc _ _ (To.inLoop ?_)
  rw [show ((i : Int) + 1) = ((i + 1 : Nat) : Int) by omega]
  exact ih.out (i + 1) (by omega) _ _ _ _ _ _ _ _ _ _ _ _ _ _ _ _ _ _ _ _ _ _ _ _ _ _ _ _ _ _ _ _ _ _ _ _ _ _ _ _ _ _ _ _ _ _ _ _ _ _ _ _ _ _ _ _ _ _ _ _ _ _ _ _ _ _ _ _ _ _ _ _ _ _ _ _ _ _ _ _ _ _ _ _ _ _ _ _ _ _ _ _ _ _ _ _ _ _ _ _ _ _ _ _ _ _ _ _ _ _ _ _ _ _ _ _ _ _ _ _ _ _ _ _ _ _ V2 (hB.trans (hb2.mono hB.size))
theorem loopw40 {w : World} (Ac Ah : Option Addr) (nc cc nh ch : Nat) (hnh : nh ≤ 1000) (gT : Nat) (hgT : w.heap[gT]? = some (.cells (tradesV Ac nc cc Ah nh ch) 62 (0, 0))) (A : Option Addr) (n c : Nat) (l : List Int) (hr : Kd.C (Kd.int .i64) w A n l) (hv : ∀ x ∈ l, 0 ≤ x ∧ x ≤ (nh : Int) - 1) (v1 v2 v3 : Value)
  (hend : ∀ t0 t5 t6 t7 t8 t9 jC jA jB jD yX yC yH xL qW zD yO yY qF yZ yW xB yF jF jP qB qE zA qC yQ qX qS zF zH jT qV xD zS zN zP yT qH yS qI xZ zM jV zR zQ zO jS xC xE yM zB xF zI zL qN jY xS jQ qJ yN xA qR yP yJ xG qG xW yI zG xO qK xJ jW qP qT zC xT xY zJ qD xP xM yD jI qZ xK zE xR xN yU xX jL yA qU jJ qA jO jK yK yG jE qY yV jX jZ jG qO jH qM zK yE yB xQ qQ xI xH jM jN qL xU yL xV yR jR jU V, Below w.heap.size w V → To Try.prog cs Y ((baseN 40).at ({ tmps := #[t0, v1, v2, v3, ptr gT, t5, t6, t7, t8, t9, jC, jA, jB, jD, yX, yC, yH, xL, qW, zD, yO, yY, qF, yZ, yW, xB, yF, jF, jP, qB, qE, zA, qC, yQ, qX, qS, zF, zH, jT, qV, xD, zS, zN, zP, yT, qH, yS, qI, xZ, zM, jV, zR, zQ, zO, jS, xC, xE, yM, zB, xF, zI, zL, qN, jY, xS, jQ, qJ, yN, xA, qR, yP, yJ, xG, qG, xW, yI, zG, xO, qK, xJ, jW, qP, qT, zC, xT, xY, zJ, qD, xP, xM, yD, jI, qZ, xK, zE, xR, xN, yU, xX, jL, yA, qU, jJ, qA, jO, jK, yK, yG, jE, qY, yV, jX, jZ, jG, qO, jH, qM, zK, yE, yB, xQ, qQ, xI, xH, jM, jN, qL, xU, yL, xV, yR, jR, jU], defers := [] } : Act) K) V) :
  ∀ (r i : Nat), i + r = n → ∀ t0 t5 t6 t7 t8 t9 jC jA jB jD yX yC yH xL qW zD yO yY qF yZ yW xB yF jF jP qB qE zA qC yQ qX qS zF zH jT qV xD zS zN zP yT qH yS qI xZ zM jV jS xC xE yM zB xF zI zL qN jY xS jQ qJ yN xA qR yP yJ xG qG xW yI zG xO qK xJ jW qP qT zC xT xY zJ qD xP xM yD jI qZ xK zE xR xN yU xX jL yA qU jJ qA jO jK yK yG jE qY yV jX jZ jG qO jH qM zK yE yB xQ qQ xI xH jM jN qL xU yL xV yR jR jU V, Below w.heap.size w V → To Try.prog cs Y ((baseN 40).at ({ tmps := #[t0, v1, v2, v3, ptr gT, t5, t6, t7, t8, t9, jC, jA, jB, jD, yX, yC, yH, xL, qW, zD, yO, yY, qF, yZ, yW, xB, yF, jF, jP, qB, qE, zA, qC, yQ, qX, qS, zF, zH, jT, qV, xD, zS, zN, zP, yT, qH, yS, qI, xZ, zM, jV, .slice A n c, .int .i64 n, .int .i64 i, jS, xC, xE, yM, zB, xF, zI, zL, qN, jY, xS, jQ, qJ, yN, xA, qR, yP, yJ, xG, qG, xW, yI, zG, xO, qK, xJ, jW, qP, qT, zC, xT, xY, zJ, qD, xP, xM, yD, jI, qZ, xK, zE, xR, xN, yU, xX, jL, yA, qU, jJ, qA, jO, jK, yK, yG, jE, qY, yV, jX, jZ, jG, qO, jH, qM, zK, yE, yB, xQ, qQ, xI, xH, jM, jN, qL, xU, yL, xV, yR, jR, jU], defers := [] } : Act) (.code l40_1 :: .inLoop l40_1 :: .inBlock 2 :: K)) V := by
 intro r
 have hlen : l.length = n := Kd.C_len hr
 have hmax := Kd.C_max hr
 dsimp only at hend ⊢
 induction r with
 | zero =>
  intro i hi t0 t5 t6 t7 t8 t9 jC jA jB jD yX yC yH xL qW zD yO yY qF yZ yW xB yF jF jP qB qE zA qC yQ qX qS zF zH jT qV xD zS zN zP yT qH yS qI xZ zM jV jS xC xE yM zB xF zI zL qN jY xS jQ qJ yN xA qR yP yJ xG qG xW yI zG xO qK xJ jW qP qT zC xT xY zJ qD xP xM yD jI qZ xK zE xR xN yU xX jL yA qU jJ qA jO jK yK yG jE qY yV jX jZ jG qO jH qM zK yE yB xQ qQ xI xH jM jN qL xU yL xV yR jR jU V hB
  obtain rfl : i = n := by omega
  have hlt : ¬ ((i : Int) < (i : Int)) := by omega
  refine To.seq (To.code fun Kc hKc => ?_)
  unfold c40_15
  go_wp2
  exact hKc _ _ (To.seq (To.no rfl (To.exit rfl (hend _ _ _ _ _ _ _ _ _ _ _ _ _ _ _ _ _ _ _ _ _ _ _ _ _ _ _ _ _ _ _ _ _ _ _ _ _ _ _ _ _ _ _ _ _ _ _ _ _ _ _ _ _ _ _ _ _ _ _ _ _ _ _ _ _ _ _ _ _ _ _ _ _ _ _ _ _ _ _ _ _ _ _ _ _ _ _ _ _ _ _ _ _ _ _ _ _ _ _ _ _ _ _ _ _ _ _ _ _ _ _ _ _ _ _ _ _ _ _ _ _ _ _ _ _ _ _ _ _ V hB))))
 | succ r ih =>
  intro i hi t0 t5 t6 t7 t8 t9 jC jA jB jD yX yC yH xL qW zD yO yY qF yZ yW xB yF jF jP qB qE zA qC yQ qX qS zF zH jT qV xD zS zN zP yT qH yS qI xZ zM jV jS xC xE yM zB xF zI zL qN jY xS jQ qJ yN xA qR yP yJ xG qG xW yI zG xO qK xJ jW qP qT zC xT xY zJ qD xP xM yD jI qZ xK zE xR xN yU xX jL yA qU jJ qA jO jK yK yG jE qY yV jX jZ jG qO jH qM zK yE yB xQ qQ xI xH jM jN qL xU yL xV yR jR jU V hB
  try dsimp only at ih
  replace ih : Hid _ := ih
  have HE : Hid _ := hend
  clear hend
  have hlt : (i : Int) < (n : Int) := by omega
  have hil : i < l.length := by omega
  obtain ⟨ad, e, hc⟩ := Kd.at_int (Kd.C_below hr hB) (i : Int) (by omega) hlt
  subst e
  have hx := hv (rd l (i : Int)) (by
   have : rd l (i : Int) = l[i] := by simp [rd, List.getD_eq_getElem?_getD, hil]
   rw [this]; exact List.getElem_mem hil)
  simp only [Int.toNat_natCast] at hc
  generalize rd l (i : Int) = x at hc hx
  have g1 := blk_cell ((hB.block gT (blk_lt hgT)).trans hgT) 1
  refine To.seq (To.code fun Kc hKc => ?_)
  unfold c40_15
  go_wp2
  refine hKc _ _ (To.seq (To.yes rfl (To.skip (To.seq (To.block (To.seq (To.code fun Kc hKc => ?_)))))))
  unfold c40_16
  go_wp2
  refine hKc _ _ (To.seq (To.code fun Kc hKc => ?_))
  have hb61 := between61 x 0 ((nh : Int) - 1) V
  rw [decide_eq_true hx] at hb61
  have C1 : Hid _ := hb61
  clear hb61
  unfold c40_17
  go_wp2_with (go_at_call 61; refine Calls.mono C1.out ?_; rintro e V2 ⟨rfl, hb2⟩; dsimp only)
  refine hKc _ _ (To.no rfl (To.skip (To.inBlock (To.code fun Kc hKc => ?_))))
  unfold c40_19
  go_wp2
  refine hKc _ _ (To.inLoop ?_)
  rw [show ((i : Int) + 1) = ((i + 1 : Nat) : Int) by omega]
  exact ih.out (i + 1) (by omega) _ _ _ _ _ _ _ _ _ _ _ _ _ _ _ _ _ _ _ _ _ _ _ _ _ _ _ _ _ _ _ _ _ _ _ _ _ _ _ _ _ _ _ _ _ _ _ _ _ _ _ _ _ _ _ _ _ _ _ _ _ _ _ _ _ _ _ _ _ _ _ _ _ _ _ _ _ _ _ _ _ _ _ _ _ _ _ _ _ _ _ _ _ _ _ _ _ _ _ _ _ _ _ _ _ _ _ _ _ _ _ _ _ _ _ _ _ _ _ _ _ _ _ _ _ _ V2 (hB.trans (hb2.mono hB.size))
end
noncomputable def c19_0 : Array Oper := (fun {c} (_ : rg Try.f19 0 = some c) => c) rfl
noncomputable def c19_1 : Array Oper := (fun {c} (_ : rg Try.f19 1 = some c) => c) rfl
noncomputable def c19_2 : Array Oper := (fun {c} (_ : rg Try.f19 2 = some c) => c) rfl
noncomputable def c19_3 : Array Oper := (fun {c} (_ : rg Try.f19 3 = some c) => c) rfl
noncomputable def b19 : Code := (.seq (.region 0 c19_0 false) (.seq (.seq (.region 1 c19_1 false) (.cond (Operand.tmp 6) (.seq (.region 2 c19_2 false) Code.ret) Code.skip)) (.seq (.region 3 c19_3 false) Code.ret)))
theorem body19 : Try.f19.body = some b19 := by kernel_rfl
noncomputable def c18_0 : Array Oper := (fun {c} (_ : rg Try.f18 0 = some c) => c) rfl
noncomputable def c18_1 : Array Oper := (fun {c} (_ : rg Try.f18 1 = some c) => c) rfl
noncomputable def b18 : Code := (.seq (.region 0 c18_0 false) (.seq (.region 1 c18_1 false) Code.ret))
theorem body18 : Try.f18.body = some b18 := by kernel_rfl
noncomputable def c36_0 : Array Oper := (fun {c} (_ : rg Try.f36 0 = some c) => c) rfl
noncomputable def c36_1 : Array Oper := (fun {c} (_ : rg Try.f36 1 = some c) => c) rfl
noncomputable def b36 : Code := (.seq (.region 0 c36_0 false) (.seq (.region 1 c36_1 false) Code.ret))
theorem body36 : Try.f36.body = some b36 := by kernel_rfl
structure Dic (w0 w : World) (g : Nat) : Prop where
 ge : w0.heap.size ≤ g
 below : Below w0.heap.size w0 w
 cells : ∃ (A : Option Addr) (n c k : Nat) (s : Int) (l : List Int), w.heap[g]? = some (.cells #[.slice A n c, .int .i64 (k : Int), .int .u64 s] 94 (0, 0)) ∧ k ≤ n ∧ Kd.C (Kd.int .i64) w0 A n l
theorem Dic.below_ {w0 w w2 : World} {g : Nat} (h : Dic w0 w g) (hb : Below w.heap.size w w2) : Dic w0 w2 g := by
 obtain ⟨h1, h2, A, n, c, k, s, l, hg, hk, hr⟩ := h
 exact ⟨h1, h2.trans (hb.mono h2.size), A, n, c, k, s, l, (hb.block g (blk_lt hg)).trans hg, hk, hr⟩
theorem bits_nonneg (o : BinOp) (x y : Int) : 0 ≤ bits o .u64 x y := by
 show 0 ≤ IntKind.u64.wrap _
 rw [IntKind.wrap_u64]
 omega
theorem calls60 {w0 w : World} {g : Nat} (h : Dic w0 w g) : Calls Try.prog 60 #[ptr g] w fun e w' => ∃ v, e = .returned v ∧ (∃ x : Int, v = .int .u64 x ∧ 0 ≤ x) ∧ Dic w0 w' g ∧ w.grownBy w' (some g) := by
 refine calls_of_to (tmps := #[ptr g, undef, undef, undef, undef, undef, undef, undef, undef, undef, undef, undef, undef, undef, undef, undef, undef, undef, undef, undef, undef, undef, undef, undef, undef, undef, undef, undef, undef, undef, undef, undef, undef, undef, undef, undef, undef, undef, undef, undef, undef, undef, undef, undef, undef, undef, undef, undef, undef, undef, undef, undef, undef, undef, undef, undef, undef, undef, undef, undef, undef, undef, undef, undef, undef, undef, undef, undef, undef, undef, undef, undef, undef, undef, undef, undef, undef, undef, undef, undef, undef, undef, undef, undef, undef, undef, undef, undef, undef, undef, undef, undef, undef]) Try.func60 body60 (by kernel_rfl) fun cs => ?_
 obtain ⟨hge, hbel, A, n, c, k, s, l, hg, hk, hr⟩ := h
 have hmax := Kd.C_max hr
 have hlen : l.length = n := Kd.C_len hr
 have tail : ∀ t1 t2 t3 t4 t5 t6 t7 t8 t9 yD jX qL jV xQ xC xF qT qD xW xK xR jP xS xP qJ xE jA jC jK jO xT jL xM qE qA xX xZ jF qC qO qN jJ qF xO jR xN jS xB yE jG qM qG jN jE qK qP xI xU qQ yA yC jW jI qX jD jT xJ qI jZ xL xH qR jQ qZ xG xY qV jU qS jH jY qB xV qY xA yB jM qW qU xD jB qH V (k : Nat) (s : Int), V.heap[g]? = some (.cells #[.slice A n c, .int .i64 (k : Int), .int .u64 s] 94 (0, 0)) → k ≤ n → w.grownBy V (some g) →
   To Try.prog cs (Out Try.prog 60 fun v w' => (∃ x : Int, v = .int .u64 x ∧ 0 ≤ x) ∧ Dic w0 w' g ∧ w.grownBy w' (some g)) ((baseN 60).at ({ tmps := #[ptr g, t1, t2, t3, t4, t5, t6, t7, t8, t9, yD, jX, qL, jV, xQ, xC, xF, qT, qD, xW, xK, xR, jP, xS, xP, qJ, xE, jA, jC, jK, jO, xT, jL, xM, qE, qA, xX, xZ, jF, qC, qO, qN, jJ, qF, xO, jR, xN, jS, xB, yE, jG, qM, qG, jN, jE, qK, qP, xI, xU, qQ, yA, yC, jW, jI, qX, jD, jT, xJ, qI, jZ, xL, xH, qR, jQ, qZ, xG, xY, qV, jU, qS, jH, jY, qB, xV, qY, xA, yB, jM, qW, qU, xD, jB, qH], defers := [] } : Act) [.code (.seq (.region 7 c60_7 false) (.seq (.region 8 c60_8 false) (.seq (.region 9 c60_9 false) Code.ret)))]) V := by
  intro t1 t2 t3 t4 t5 t6 t7 t8 t9 yD jX qL jV xQ xC xF qT qD xW xK xR jP xS xP qJ xE jA jC jK jO xT jL xM qE qA xX xZ jF qC qO qN jJ qF xO jR xN jS xB yE jG qM qG jN jE qK qP xI xU qQ yA yC jW jI qX jD jT xJ qI jZ xL xH qR jQ qZ xG xY qV jU qS jH jY qB xV qY xA yB jM qW qU xD jB qH V k s hV hk hgr
  have l2 := blk_cell hV 2
  refine To.seq (To.code fun Kc hKc => ?_)
  unfold c60_7
  go_wp2
  refine hKc _ _ (To.seq (To.code fun Kc hKc => ?_))
  unfold c60_8
  go_wp2
  refine hKc _ _ (To.seq (To.code fun Kc hKc => ?_))
  unfold c60_9
  go_wp2
  exact hKc _ _ (To.ret Try.func60 rfl (results_tmp rfl _ _ _) ⟨⟨_, rfl, bits_nonneg _ _ _⟩, ⟨hge, hbel.grown hgr hbel.size (by simp; omega), A, n, c, k, s, l, hV, hk, hr⟩, hgr⟩)
 have HT : Hid _ := tail
 clear tail
 unfold b60
 refine To.seq (To.code fun Kc hKc => ?_)
 unfold c60_0
 go_wp2
 refine hKc _ _ (To.seq (reg60_1 g (.slice A n c) (k : Int) s w hg _ _ _ _ _ _ _ _ _ _ _ _ _ _ _ _ _ _ _ _ _ _ _ _ _ _ _ _ _ _ _ _ _ _ _ _ _ _ _ _ _ _ _ _ _ _ _ _ _ _ _ _ _ _ _ _ _ _ _ _ _ _ _ _ _ _ _ _ _ _ _ _ _ _ _ _ _ _ _ _ _ _ _ _ _ _ _ _ _ _ _ _ ?_))
 intro t1 t2 t3 t4 t5 t6 t7 t8 t9 yD jX qL jV xQ xC xF qT qD xW xK xR jP xS xP qJ xE jA jC jK jO xT jL xM qE qA xX xZ jF qC qO qN jJ qF xO jR xN jS xB yE jG qM qG jN jE qK qP xI xU qQ yA yC jW jI qX jD jT xJ qI jZ xL xH qR jQ qZ xG xY qV jU qS jH jY qB xV qY xA yB jM qW qU xD jB qH V1 hg1 hb1
 refine To.seq (reg60_2 g (.slice A n c) (k : Int) _ V1 hb1 _ _ _ _ _ _ _ _ _ _ _ _ _ _ _ _ _ _ _ _ _ _ _ _ _ _ _ _ _ _ _ _ _ _ _ _ _ _ _ _ _ _ _ _ _ _ _ _ _ _ _ _ _ _ _ _ _ _ _ _ _ _ _ _ _ _ _ _ _ _ _ _ _ _ _ _ _ _ _ _ _ _ _ _ _ _ _ _ _ _ _ _ ?_)
 intro t1 t2 t3 t4 t5 t6 t7 t8 t9 yD jX qL jV xQ xC xF qT qD xW xK xR jP xS xP qJ xE jA jC jK jO xT jL xM qE qA xX xZ jF qC qO qN jJ qF xO jR xN jS xB yE jG qM qG jN jE qK qP xI xU qQ yA yC jW jI qX jD jT xJ qI jZ xL xH qR jQ qZ xG xY qV jU qS jH jY qB xV qY xA yB jM qW qU xD jB qH V2 hg2 hb2
 refine To.seq (reg60_3 g (.slice A n c) (k : Int) _ V2 hb2 _ _ _ _ _ _ _ _ _ _ _ _ _ _ _ _ _ _ _ _ _ _ _ _ _ _ _ _ _ _ _ _ _ _ _ _ _ _ _ _ _ _ _ _ _ _ _ _ _ _ _ _ _ _ _ _ _ _ _ _ _ _ _ _ _ _ _ _ _ _ _ _ _ _ _ _ _ _ _ _ _ _ _ _ _ _ _ _ _ _ _ _ ?_)
 intro t1 t2 t3 t4 t5 t6 t7 t8 t9 yD jX qL jV xQ xC xF qT qD xW xK xR jP xS xP qJ xE jA jC jK jO xT jL xM qE qA xX xZ jF qC qO qN jJ qF xO jR xN jS xB yE jG qM qG jN jE qK qP xI xU qQ yA yC jW jI qX jD jT xJ qI jZ xL xH qR jQ qZ xG xY qV jU qS jH jY qB xV qY xA yB jM qW qU xD jB qH V3 hg3 hb3
 have hgr := grown_trans' hg1 (grown_trans' hg2 hg3)
 generalize bits BinOp.xor IntKind.u64 (bits _ _ _ _) _ = s3 at hb3
 clear hb1 hb2 hg1 hg2 hg3 V1 V2
 refine To.seq (To.seq (To.code fun Kc hKc => ?_))
 have f0 : ∀ W', Below V3.heap.size V3 W' → W'.cell? ⟨g, 0, none⟩ = some (.slice A n c) := fun W' h => (blk_cell ((h.block _ (blk_lt hb3)).trans hb3) 0)
 have f1 : ∀ W', Below V3.heap.size V3 W' → W'.cell? ⟨g, 1, none⟩ = some (.int .i64 (k : Int)) := fun W' h => (blk_cell ((h.block _ (blk_lt hb3)).trans hb3) 1)
 have hrefl : Below V3.heap.size V3 V3 := Below.refl _ _
 have hB3 : Below w0.heap.size w0 V3 := hbel.grown hgr hbel.size (by simp; omega)
 have hg3 : V3.drew.heap[g]? = some (.cells #[.slice A n c, .int .i64 (k : Int), .int .u64 s3] 94 (0, 0)) := hb3
 have hgr3 : w.grownBy V3.drew (some g) := grown_trans' hgr ⟨rfl, rfl, rfl, Nat.le_refl _, fun _ _ _ => rfl⟩
 by_cases hlt : (k : Int) < (n : Int)
 ·obtain ⟨ad, e, hc⟩ := Kd.at_int (Kd.C_below hr hB3) (k : Int) (by omega) hlt
  subst e
  have hc3 : V3.drew.cell? (ad.add k) = some (.int .i64 (rd l (k : Int))) := by simpa using hc
  clear hc
  have HC : Hid _ := hc3
  clear hc3
  have HG : Hid _ := hg3
  have HR : Hid _ := hgr3
  clear hg3 hgr3 hgr hB3
  unfold c60_4
  dsimp only
  go_region_held3 (fun w' => Below V3.heap.size V3 w') (first | exact Below.drew (by assumption) | assumption) (fail)
  refine hKc _ _ (To.yes rfl (To.seq (reg60_5 g ad n c k _ s3 hlt V3.drew HG.out HC.out _ _ _ _ _ _ _ _ _ _ _ _ _ _ _ _ _ _ _ _ _ _ _ _ _ _ _ _ _ _ _ _ _ _ _ _ _ _ _ _ _ _ _ _ _ _ _ _ _ _ _ _ _ _ _ _ _ _ _ _ _ _ _ _ _ _ _ _ _ _ _ _ _ _ _ _ _ _ _ _ _ _ _ _ _ _ _ _ _ _ _ _ ?_)))
  intro t1 t2 t3 t4 t5 t6 t7 t8 t9 yD jX qL jV xQ xC xF qT qD xW xK xR jP xS xP qJ xE jA jC jK jO xT jL xM qE qA xX xZ jF qC qO qN jJ qF xO jR xN jS xB yE jG qM qG jN jE qK qP xI xU qQ yA yC jW jI qX jD jT xJ qI jZ xL xH qR jQ qZ xG xY qV jU qS jH jY qB xV qY xA yB jM qW qU xD jB qH V4 hg4 hb4
  have l1 := blk_cell hb4 1
  have lf := blk_frozen hb4 1
  have hw1 : IntKind.i64.wrap ((k : Int) + 1) = (k : Int) + 1 := by rw [i64w]; unfold wrap64; omega
  refine To.code fun Kc hKc => ?_
  unfold c60_6
  go_wp2
  have L5 := blk_set hb4 1 (.int .i64 ((k : Int) + 1))
  exact hKc _ _ (HT.out _ _ _ _ _ _ _ _ _ _ _ _ _ _ _ _ _ _ _ _ _ _ _ _ _ _ _ _ _ _ _ _ _ _ _ _ _ _ _ _ _ _ _ _ _ _ _ _ _ _ _ _ _ _ _ _ _ _ _ _ _ _ _ _ _ _ _ _ _ _ _ _ _ _ _ _ _ _ _ _ _ _ _ _ _ _ _ _ _ _ _ _ _ (k + 1) _ (by simpa using L5) (by omega) (grown_trans' HR.out (grown_trans' hg4 (grown_set _ ⟨g, 1, none⟩ _))))
 ·have HG : Hid _ := hg3
  have HR : Hid _ := hgr3
  clear hg3 hgr3 hgr hB3
  unfold c60_4
  dsimp only
  go_region_held3 (fun w' => Below V3.heap.size V3 w') (first | exact Below.drew (by assumption) | assumption) (fail)
  exact hKc _ _ (To.no rfl (To.skip (HT.out _ _ _ _ _ _ _ _ _ _ _ _ _ _ _ _ _ _ _ _ _ _ _ _ _ _ _ _ _ _ _ _ _ _ _ _ _ _ _ _ _ _ _ _ _ _ _ _ _ _ _ _ _ _ _ _ _ _ _ _ _ _ _ _ _ _ _ _ _ _ _ _ _ _ _ _ _ _ _ _ _ _ _ _ _ _ _ _ _ _ _ _ _ k _ HG.out hk HR.out)))
theorem calls19 {w0 w : World} {g : Nat} (h : Dic w0 w g) (n : Int) (hn : n ≤ 4611686018427387904) : Calls Try.prog 19 #[ptr g, .int .i64 n] w fun e w' => ∃ v, e = .returned v ∧ (∃ x : Int, v = .int .i64 x ∧ 0 ≤ x ∧ (n < 1 → x = 0) ∧ (1 ≤ n → x ≤ n)) ∧ Dic w0 w' g ∧ w.grownBy w' (some g) := by
 refine calls_of_to (tmps := #[ptr g, .int .i64 n, undef, undef, undef, undef, undef, undef, undef, undef, undef, undef, undef, undef, undef]) Try.func19 body19 (by kernel_rfl) fun cs => ?_
 have C60 : Hid _ := calls60 h
 unfold b19
 refine To.seq (To.code fun Kc hKc => ?_)
 unfold c19_0
 go_wp2
 refine hKc _ _ (To.seq (To.seq (To.code fun Kc hKc => ?_)))
 by_cases hlt : n < 1
 ·unfold c19_1
  go_wp2
  refine hKc _ _ (To.yes rfl (To.seq (To.code fun Kc hKc => ?_)))
  unfold c19_2
  go_wp2
  exact hKc _ _ (To.ret Try.func19 rfl (results_tmp rfl _ _ _) ⟨⟨0, rfl, by omega, fun _ => rfl, fun h => by omega⟩, h, rfl, rfl, rfl, Nat.le_refl _, fun _ _ _ => rfl⟩)
 ·unfold c19_1
  go_wp2
  have hw1 : IntKind.i64.wrap (n + 1) = n + 1 := by rw [i64w]; unfold wrap64; omega
  have hw2 : IntKind.u64.wrap (n + 1) = n + 1 := IntWalk.u64_in _ (by omega)
  have hnz : ¬ (n + 1 = 0) := by omega
  refine hKc _ _ (To.no rfl (To.skip (To.seq (To.code fun Kc hKc => ?_))))
  unfold c19_3
  go_wp2_with (go_at_call 60; refine Calls.mono C60.out ?_; rintro e W ⟨_, rfl, ⟨x, rfl, hx⟩, hd, hgr⟩; dsimp only)
  have h0 : 0 ≤ x / 65536 % (n + 1) := Int.emod_nonneg _ (by omega)
  have h1 : x / 65536 % (n + 1) < n + 1 := Int.emod_lt_of_pos _ (by omega)
  generalize x / 65536 % (n + 1) = y at h0 h1
  have hy : wrap64 y = y := by unfold wrap64; omega
  exact hKc _ _ (To.ret Try.func19 rfl (results_tmp rfl _ _ _) ⟨⟨_, rfl, by omega, fun h => by omega, fun _ => by omega⟩, hd, hgr⟩)
theorem calls18 {w0 w : World} {g : Nat} (h : Dic w0 w g) (lo hi : Int) (hl : -1000000000 ≤ lo ∧ lo ≤ 1000000000) (hh : -1000000000 ≤ hi ∧ hi ≤ 1000000000) : Calls Try.prog 18 #[ptr g, .int .i64 lo, .int .i64 hi] w fun e w' => ∃ v, e = .returned v ∧ (∃ x : Int, v = .int .i64 x ∧ lo ≤ x ∧ (lo ≤ hi → x ≤ hi) ∧ (hi ≤ lo → x = lo)) ∧ Dic w0 w' g ∧ w.grownBy w' (some g) := by
 refine calls_of_to (tmps := #[ptr g, .int .i64 lo, .int .i64 hi, undef, undef, undef, undef, undef, undef, undef, undef, undef, undef, undef]) Try.func18 body18 (by kernel_rfl) fun cs => ?_
 have hw1 : wrap64 (hi - lo) = hi - lo := by unfold wrap64; omega
 have hw1' : IntKind.i64.wrap (hi - lo) = hi - lo := by rw [i64w]; exact hw1
 have C19 : Hid _ := calls19 h (hi - lo) (by omega)
 unfold b18
 refine To.seq (To.code fun Kc hKc => ?_)
 unfold c18_0
 go_wp2
 refine hKc _ _ (To.seq (To.code fun Kc hKc => ?_))
 unfold c18_1
 go_wp2_with (go_at_call 19; refine Calls.mono C19.out ?_; rintro e W ⟨_, rfl, ⟨x, rfl, hx0, hx1, hx2⟩, hd, hgr⟩; dsimp only)
 have hy : wrap64 (lo + x) = lo + x := by unfold wrap64; omega
 refine hKc _ _ (To.ret Try.func18 rfl (results_tmp rfl _ _ _) ⟨⟨_, rfl, ?_, fun h => ?_, fun h => ?_⟩, hd, hgr⟩)
 all_goals omega
theorem calls36 {w0 w : World} {g : Nat} (h : Dic w0 w g) (A : Option Addr) (n c : Nat) (l : List Int) (hr : Kd.C (Kd.int .i64) w A n l) (hn : 1 ≤ n ∧ n ≤ 1000) (hA : ∀ ad, A = some ad → ad.block ≠ g) : Calls Try.prog 36 #[ptr g, .slice A n c] w fun e w' => ∃ v, e = .returned v ∧ (∃ x : Int, v = .int .i64 x ∧ x ∈ l) ∧ Dic w0 w' g ∧ w.grownBy w' (some g) := by
 refine calls_of_to (tmps := #[ptr g, .slice A n c, undef, undef, undef, undef, undef, undef, undef, undef, undef, undef, undef]) Try.func36 body36 (by kernel_rfl) fun cs => ?_
 have hlen : l.length = n := Kd.C_len hr
 have C19 : Hid _ := calls19 h ((n : Int) - 1) (by omega)
 have hw1 : IntKind.i64.wrap ((n : Int) - 1) = (n : Int) - 1 := by rw [i64w]; unfold wrap64; omega
 unfold b36
 refine To.seq (To.code fun Kc hKc => ?_)
 unfold c36_0
 go_wp2
 refine hKc _ _ (To.seq (To.code fun Kc hKc => ?_))
 obtain ⟨ad, e, -⟩ := Kd.at_int hr 0 (by omega) (by omega)
 subst e
 have hne := hA ad rfl
 have key : ∀ (x : Int) (W : World), 0 ≤ x → x < (n : Int) → w.grownBy W (some g) → W.cell? (ad.add x.toNat) = some (.int .i64 (rd l x)) := fun x W h0 h1 hgr => by
  obtain ⟨ad', e, hc⟩ := Kd.at_int hr x h0 h1
  injection e with e
  subst e
  exact cell_grown hgr hc (by rw [add_block]; exact hne)
 unfold c36_1
 go_wp2_with (go_at_call 19; refine Calls.mono C19.out ?_; rintro e W ⟨_, rfl, ⟨x, rfl, hx0, hx1, hx2⟩, hd, hgr⟩; have hxn : x < (n : Int) := (by by_cases h1 : n = 1 <;> omega); have hcx := key x W hx0 hxn hgr; dsimp only)
 refine hKc _ _ (To.ret Try.func36 rfl (results_tmp rfl _ _ _) ⟨⟨_, rfl, ?_⟩, hd, hgr⟩)
 have hlt : x.toNat < l.length := by omega
 have : rd l x = l[x.toNat] := by simp [rd, List.getD_eq_getElem?_getD, hlt]
 rw [this]
 exact List.getElem_mem hlt
noncomputable def h40_32 : Array Oper := c40_32.extract 0 7
theorem cut40_32 : Cut .any c40_32 h40_32 7 2 := by
 refine Cut.of (fun i hi => ?_) (by kernel_rfl)
 have : i = 0 ∨ i = 1 ∨ i = 2 ∨ i = 3 ∨ i = 4 ∨ i = 5 ∨ i = 6 := by omega
 rcases this with rfl | rfl | rfl | rfl | rfl | rfl | rfl <;> rfl
set_option maxHeartbeats 4000000 in
theorem reg40_32 {cs : List Frame} {Y : Frame → World → Prop} {K : List Item} (ad : Addr) (n c ci gh : Nat) (cv lv : Value) (P p : Int) (hci : (ci : Int) < (n : Int)) (hP : 0 ≤ P ∧ P ≤ 1000000) (hp : 0 ≤ p ∧ p ≤ 1000000) (V : World)
  (hg : V.heap[gh]? = some (.cells #[cv, lv, .int .i64 P] 110 (0, 0))) (hc : V.cell? (ad.add ci) = some (.int .i64 p)) t0 t2 t3 t4 t5 t6 t7 t8 t9 jC jA jB jD yP xY zP zO qT yG qD yQ yO xA yB jG jN jZ qC yR qA yI qU qQ yV yW jR qS jE xD jY qW yL qF yK qG xW zB jT xC qX qB jQ xB xE yE yS xF yX zA qL jW xP jO qH yF qZ qP yH yC xG qE xT zQ zR xM qI xJ jU qN qR yT xQ xV yY zL zN zM xZ jJ qY xK yU xO xL yM xU jK zH zG zC zF zE zD zJ zI jF qV yN jV jX jH qM jI qK yZ yA xX xN qO xI xH jL jM qJ xR yD xS yJ jP jS
  (h : ∀ y100 y101 y102 y103 y104 y105 y106 y107 V2, V.grownBy V2 (some gh) → V2.heap[gh]? = some (.cells #[cv, lv, .int .i64 (P + p)] 110 (0, 0)) → To Try.prog cs Y ((baseN 40).at ({ tmps := #[t0, .slice (some ad) n c, t2, t3, t4, t5, t6, t7, t8, t9, jC, jA, jB, jD, yP, xY, zP, zO, qT, ptr gh, yG, .int .i64 (ci : Int), qD, yQ, yO, xA, yB, jG, jN, jZ, qC, yR, qA, yI, qU, qQ, yV, yW, jR, qS, jE, xD, jY, qW, yL, qF, yK, qG, xW, zB, jT, xC, qX, qB, jQ, xB, xE, yE, yS, xF, yX, zA, qL, jW, xP, jO, qH, yF, qZ, qP, yH, yC, xG, qE, xT, zQ, zR, xM, qI, xJ, jU, qN, qR, yT, xQ, xV, yY, zL, zN, zM, xZ, jJ, qY, xK, yU, xO, xL, yM, xU, jK, y100, y101, y102, y103, y104, y105, y106, y107, jF, qV, yN, jV, jX, jH, qM, jI, qK, yZ, yA, xX, xN, qO, xI, xH, jL, jM, qJ, xR, yD, xS, yJ, jP, jS], defers := [] } : Act) K) V2) :
  To Try.prog cs Y ((baseN 40).at ({ tmps := #[t0, .slice (some ad) n c, t2, t3, t4, t5, t6, t7, t8, t9, jC, jA, jB, jD, yP, xY, zP, zO, qT, ptr gh, yG, .int .i64 (ci : Int), qD, yQ, yO, xA, yB, jG, jN, jZ, qC, yR, qA, yI, qU, qQ, yV, yW, jR, qS, jE, xD, jY, qW, yL, qF, yK, qG, xW, zB, jT, xC, qX, qB, jQ, xB, xE, yE, yS, xF, yX, zA, qL, jW, xP, jO, qH, yF, qZ, qP, yH, yC, xG, qE, xT, zQ, zR, xM, qI, xJ, jU, qN, qR, yT, xQ, xV, yY, zL, zN, zM, xZ, jJ, qY, xK, yU, xO, xL, yM, xU, jK, zH, zG, zC, zF, zE, zD, zJ, zI, jF, qV, yN, jV, jX, jH, qM, jI, qK, yZ, yA, xX, xN, qO, xI, xH, jL, jM, qJ, xR, yD, xS, yJ, jP, jS], defers := [] } : Act) (.code (.region 32 c40_32 true) :: K)) V := by
 refine To.code fun Kc hKc => ?_
 dsimp only at h
 have HH : Hid _ := h
 clear h
 obtain ⟨hP0, hP1⟩ := hP
 obtain ⟨hp0, hp1⟩ := hp
 have hw1 : IntKind.i64.wrap (P + p) = P + p := by rw [i64w]; unfold wrap64; omega
 refine wp_region_cut (by kernel_rfl) cut40_32 (wpAny_of_held (S := fun w' => w'.heap[gh]? = some (.cells #[cv, lv, .int .i64 P] 110 (0, 0)) ∧ w'.cell? (ad.add ci) = some (.int .i64 p)) _ _ _ _ ?_)
 have hS : ({ V with drawn := V.drawn + 1 } : World).heap[gh]? = some (.cells #[cv, lv, .int .i64 P] 110 (0, 0)) ∧ ({ V with drawn := V.drawn + 1 } : World).cell? (ad.add ci) = some (.int .i64 p) := ⟨hg, hc⟩
 have hK1 : V.grownBy { V with drawn := V.drawn + 1 } (some gh) := ⟨rfl, rfl, rfl, Nat.le_refl _, fun _ _ _ => rfl⟩
 generalize ({ V with drawn := V.drawn + 1 } : World) = W at hS hK1 ⊢
 clear hg hc
 unfold h40_32
 refine tk 0 ⟨some 100, .fieldAddr 110 (.tmp 19) 2, 0, "fill.go:170", #[], none⟩ (.pointer (some ⟨gh, 2, none⟩)) (.inl ⟨by rfl, ?_⟩) hS ?_
 ·intro w' ⟨q1, q2⟩
  have l2 := blk_cell q1 2
  go_simp
 try simp only [pt]
 refine tk 1 ⟨some 101, .load 3 (.tmp 100), 3, "fill.go:170", #[⟨0, .data⟩], none⟩ (.int .i64 P) (.inl ⟨by rfl, ?_⟩) hS ?_
 ·intro w' ⟨q1, q2⟩
  have l2 := blk_cell q1 2
  go_simp
 try simp only [pt]
 refine tk 2 ⟨some 102, .move (.tmp 1), 22, "fill.go:170", #[], none⟩ (.slice (some ad) n c) (.inl ⟨by rfl, ?_⟩) hS ?_
 ·intro w' ⟨q1, q2⟩
  have l2 := blk_cell q1 2
  go_simp
 try simp only [pt]
 refine tk 3 ⟨some 103, .move (.tmp 21), 3, "fill.go:170", #[], none⟩ (.int .i64 (ci : Int)) (.inl ⟨by rfl, ?_⟩) hS ?_
 ·intro w' ⟨q1, q2⟩
  have l2 := blk_cell q1 2
  go_simp
 try simp only [pt]
 refine tk 4 ⟨some 104, .indexAddr 22 (.tmp 102) (.tmp 103), 0, "fill.go:170", #[⟨2, .data⟩, ⟨3, .data⟩], none⟩ (.pointer (some (ad.add ci))) (.inl ⟨by rfl, ?_⟩) hS ?_
 ·intro w' ⟨q1, q2⟩
  have l2 := blk_cell q1 2
  go_simp
 try simp only [pt]
 refine tk 5 ⟨some 105, .load 3 (.tmp 104), 3, "fill.go:170", #[⟨4, .data⟩], none⟩ (.int .i64 p) (.inl ⟨by rfl, ?_⟩) hS ?_
 ·intro w' ⟨q1, q2⟩
  have l2 := blk_cell q1 2
  go_simp
 try simp only [pt]
 refine tk 6 ⟨some 106, .binOp .add 3 (.tmp 101) (.tmp 105) 3, 3, "fill.go:170", #[⟨1, .data⟩, ⟨5, .data⟩], none⟩ (.int .i64 (P + p)) (.inl ⟨by rfl, ?_⟩) hS ?_
 ·intro w' ⟨q1, q2⟩
  have l2 := blk_cell q1 2
  go_simp
 try simp only [pt]
 refine wpAnyH_done (by kernel_rfl) ?_ _
 show wpOps Try.prog c40_32 _ [7, 8] _ _
 have l2 := blk_cell hS.1 2
 have lf := blk_frozen hS.1 2
 refine wpOps_step (o := ⟨some 107, .fieldAddr 110 (.tmp 19) 2, 0, "fill.go:170", #[⟨0, .phase⟩, ⟨1, .phase⟩, ⟨2, .phase⟩, ⟨3, .phase⟩, ⟨4, .phase⟩, ⟨5, .phase⟩, ⟨6, .phase⟩], none⟩) rfl rfl fun K' hK' => ?_
 go_simp
 refine hK' _ _ ?_
 clear hK' K'
 try simp only [pt]
 refine wpOps_step (o := ⟨none, .store 3 (.tmp 107) (.tmp 106), 0, "fill.go:170", #[⟨7, .data⟩, ⟨6, .data⟩, ⟨0, .phase⟩, ⟨1, .phase⟩, ⟨2, .phase⟩, ⟨3, .phase⟩, ⟨4, .phase⟩, ⟨5, .phase⟩, ⟨6, .phase⟩], none⟩) rfl rfl fun K' hK' => ?_
 go_simp
 refine hK' _ _ ?_
 clear hK' K'
 try simp only [pt]
 have L5 := blk_set hS.1 2 (.int .i64 (P + p))
 show Kc _ _
 exact hKc _ _ (HH.out _ _ _ _ _ _ _ _ _ (grown_trans' hK1 (grown_set W ⟨gh, 2, none⟩ _)) L5)
def paid (pr : List Int) (is : List Int) : Int := (is.map fun i => rd pr i).sum
section
variable {cs : List Frame} {Y : Frame → World → Prop} {K K5 : List Item} {Ac Ah : Option Addr} {nc cc nh ch : Nat} {cl : List S122} {hd : List S68}
theorem paid_le {pr : List Int} {is : List Int} (h : ∀ x ∈ pr, 0 ≤ x ∧ x ≤ 999) : 0 ≤ paid pr is ∧ paid pr is ≤ 999 * is.length := by
 induction is with
 | nil => simp [paid]
 | cons i is ih =>
  have h1 : 0 ≤ rd pr i ∧ rd pr i ≤ 999 := by
   unfold rd
   rw [List.getD_eq_getElem?_getD]
   cases hx : pr[i.toNat]? with
   | none => simp
   | some x => exact h x (List.mem_of_getElem? hx)
  simp only [paid, List.map_cons, List.sum_cons, List.length_cons] at ih ⊢
  omega
theorem loopc40 {w : World} (hT : Trades w Ac nc cc Ah nh ch cl hd) (gT : Nat) (hgT : w.heap[gT]? = some (.cells (tradesV Ac nc cc Ah nh ch) 62 (0, 0))) (Ap : Option Addr) (cp : Nat) (pr : List Int) (hpr : Kd.C (Kd.int .i64) w Ap nh pr) (hpv : ∀ x ∈ pr, 0 ≤ x ∧ x ≤ 999) (L : List Int) (hL : ∀ x ∈ L, 0 ≤ x ∧ x < (nh : Int)) (hLl : L.length ≤ 8)
  (gh gl : Nat) (cv lv v2 v3 v16 v17 v75 v76 : Value) (W1 : World) (hB : Below w.heap.size w W1) (hgw : w.heap.size ≤ gh) (hgl : W1.heap[gl]? = some (.cells (nums .i64 L).toArray 3 (0, 0))) (hne : gl ≠ gh) (hx5 : exitTo 5 K = some K5)
  (hend : ∀ t0 t5 t6 t7 t8 t9 jC jA jB jD yP xY qT yG zK qD yQ yO xA yB jG jN jZ qC yR qA yI qU qQ yV yW jR qS jE xD jY qW yL qF yK qG xW zB jT xC qX qB jQ xB xE yE yS xF yX zA qL jW xP jO qH yF qZ qP yH yC xG qE xT xM qI xJ jU qN qR yT xQ xV yY zL zN zM xZ jJ qY xK yU xO xL yM xU jK zH zG zC zF zE zD zJ zI jF qV yN jV jX jH qM jI qK yZ yA xX xN qO xI xH jL jM qJ xR yD xS yJ jP jS V, W1.grownBy V (some gh) → V.heap[gh]? = some (.cells #[cv, lv, .int .i64 (paid pr L)] 110 (0, 0)) → (∀ x ∈ L, 0 ≤ (rd_T68 hd x).f1) → To Try.prog cs Y ((baseN 40).at ({ tmps := #[t0, .slice Ap nh cp, v2, v3, ptr gT, t5, t6, t7, t8, t9, jC, jA, jB, jD, yP, xY, v16, v17, qT, ptr gh, yG, zK, qD, yQ, yO, xA, yB, jG, jN, jZ, qC, yR, qA, yI, qU, qQ, yV, yW, jR, qS, jE, xD, jY, qW, yL, qF, yK, qG, xW, zB, jT, xC, qX, qB, jQ, xB, xE, yE, yS, xF, yX, zA, qL, jW, xP, jO, qH, yF, qZ, qP, yH, yC, xG, qE, xT, v75, v76, xM, qI, xJ, jU, qN, qR, yT, xQ, xV, yY, zL, zN, zM, xZ, jJ, qY, xK, yU, xO, xL, yM, xU, jK, zH, zG, zC, zF, zE, zD, zJ, zI, jF, qV, yN, jV, jX, jH, qM, jI, qK, yZ, yA, xX, xN, qO, xI, xH, jL, jM, qJ, xR, yD, xS, yJ, jP, jS], defers := [] } : Act) K) V)
  (hexit : ∀ t0 t5 t6 t7 t8 t9 jC jA jB jD yP xY qT yG zK qD yQ yO xA yB jG jN jZ qC yR qA yI qU qQ yV yW jR qS jE xD jY qW yL qF yK qG xW zB jT xC qX qB jQ xB xE yE yS xF yX zA qL jW xP jO qH yF qZ qP yH yC xG qE xT xM qI xJ jU qN qR yT xQ xV yY zL zN zM xZ jJ qY xK yU xO xL yM xU jK zH zG zC zF zE zD zJ zI jF qV yN jV jX jH qM jI qK yZ yA xX xN qO xI xH jL jM qJ xR yD xS yJ jP jS V, W1.grownBy V (some gh) → (∃ x ∈ L, (rd_T68 hd x).f1 < 0) → To Try.prog cs Y ((baseN 40).at ({ tmps := #[t0, .slice Ap nh cp, v2, v3, ptr gT, t5, t6, t7, t8, t9, jC, jA, jB, jD, yP, xY, v16, v17, qT, ptr gh, yG, zK, qD, yQ, yO, xA, yB, jG, jN, jZ, qC, yR, qA, yI, qU, qQ, yV, yW, jR, qS, jE, xD, jY, qW, yL, qF, yK, qG, xW, zB, jT, xC, qX, qB, jQ, xB, xE, yE, yS, xF, yX, zA, qL, jW, xP, jO, qH, yF, qZ, qP, yH, yC, xG, qE, xT, v75, v76, xM, qI, xJ, jU, qN, qR, yT, xQ, xV, yY, zL, zN, zM, xZ, jJ, qY, xK, yU, xO, xL, yM, xU, jK, zH, zG, zC, zF, zE, zD, zJ, zI, jF, qV, yN, jV, jX, jH, qM, jI, qK, yZ, yA, xX, xN, qO, xI, xH, jL, jM, qJ, xR, yD, xS, yJ, jP, jS], defers := [] } : Act) K5) V) :
  ∀ (r j : Nat), j + r = L.length → ∀ t0 t5 t6 t7 t8 t9 jC jA jB jD yP xY qT yG zK qD yQ yO xA yB jG jN jZ qC yR qA yI qU qQ yV yW jR qS jE xD jY qW yL qF yK qG xW zB jT xC qX qB jQ xB xE yE yS xF yX zA qL jW xP jO qH yF qZ qP yH yC xG qE xT xM qI xJ jU qN qR yT xQ xV yY xZ jJ qY xK yU xO xL yM xU jK zH zG zC zF zE zD zJ zI jF qV yN jV jX jH qM jI qK yZ yA xX xN qO xI xH jL jM qJ xR yD xS yJ jP jS V, W1.grownBy V (some gh) → V.heap[gh]? = some (.cells #[cv, lv, .int .i64 (paid pr (L.take j))] 110 (0, 0)) → (∀ x ∈ L.take j, 0 ≤ (rd_T68 hd x).f1) →
   To Try.prog cs Y ((baseN 40).at ({ tmps := #[t0, .slice Ap nh cp, v2, v3, ptr gT, t5, t6, t7, t8, t9, jC, jA, jB, jD, yP, xY, v16, v17, qT, ptr gh, yG, zK, qD, yQ, yO, xA, yB, jG, jN, jZ, qC, yR, qA, yI, qU, qQ, yV, yW, jR, qS, jE, xD, jY, qW, yL, qF, yK, qG, xW, zB, jT, xC, qX, qB, jQ, xB, xE, yE, yS, xF, yX, zA, qL, jW, xP, jO, qH, yF, qZ, qP, yH, yC, xG, qE, xT, v75, v76, xM, qI, xJ, jU, qN, qR, yT, xQ, xV, yY, .slice (some ⟨gl, 0, none⟩) L.length L.length, .int .i64 L.length, .int .i64 j, xZ, jJ, qY, xK, yU, xO, xL, yM, xU, jK, zH, zG, zC, zF, zE, zD, zJ, zI, jF, qV, yN, jV, jX, jH, qM, jI, qK, yZ, yA, xX, xN, qO, xI, xH, jL, jM, qJ, xR, yD, xS, yJ, jP, jS], defers := [] } : Act) (.code l40_3 :: .inLoop l40_3 :: .inBlock 6 :: K)) V := by
 intro r
 dsimp only at hend hexit ⊢
 induction r with
 | zero =>
  intro j hj t0 t5 t6 t7 t8 t9 jC jA jB jD yP xY qT yG zK qD yQ yO xA yB jG jN jZ qC yR qA yI qU qQ yV yW jR qS jE xD jY qW yL qF yK qG xW zB jT xC qX qB jQ xB xE yE yS xF yX zA qL jW xP jO qH yF qZ qP yH yC xG qE xT xM qI xJ jU qN qR yT xQ xV yY xZ jJ qY xK yU xO xL yM xU jK zH zG zC zF zE zD zJ zI jF qV yN jV jX jH qM jI qK yZ yA xX xN qO xI xH jL jM qJ xR yD xS yJ jP jS V hgr hg hpos
  have hlt : ¬ ((L.length : Int) < (L.length : Int)) := by omega
  obtain rfl : j = L.length := by omega
  rw [List.take_length] at hg hpos
  have HP : Hid _ := hpos
  clear hpos
  refine To.seq (To.code fun Kc hKc => ?_)
  unfold c40_29
  go_wp2
  exact hKc _ _ (To.seq (To.no rfl (To.exit rfl (hend _ _ _ _ _ _ _ _ _ _ _ _ _ _ _ _ _ _ _ _ _ _ _ _ _ _ _ _ _ _ _ _ _ _ _ _ _ _ _ _ _ _ _ _ _ _ _ _ _ _ _ _ _ _ _ _ _ _ _ _ _ _ _ _ _ _ _ _ _ _ _ _ _ _ _ _ _ _ _ _ _ _ _ _ _ _ _ _ _ _ _ _ _ _ _ _ _ _ _ _ _ _ _ _ _ _ _ _ _ _ _ _ _ _ _ _ _ _ _ _ _ _ _ _ V hgr hg HP.out))))
 | succ r ih =>
  intro j hj t0 t5 t6 t7 t8 t9 jC jA jB jD yP xY qT yG zK qD yQ yO xA yB jG jN jZ qC yR qA yI qU qQ yV yW jR qS jE xD jY qW yL qF yK qG xW zB jT xC qX qB jQ xB xE yE yS xF yX zA qL jW xP jO qH yF qZ qP yH yC xG qE xT xM qI xJ jU qN qR yT xQ xV yY xZ jJ qY xK yU xO xL yM xU jK zH zG zC zF zE zD zJ zI jF qV yN jV jX jH qM jI qK yZ yA xX xN qO xI xH jL jM qJ xR yD xS yJ jP jS V hgr hg hpos
  try dsimp only at ih
  replace ih : Hid _ := ih
  have HE : Hid _ := hend
  have HX : Hid _ := hexit
  have HP : Hid _ := hpos
  clear hend hexit hpos
  have hlt : (j : Int) < (L.length : Int) := by omega
  have hjl : j < L.length := by omega
  obtain ⟨x, hx⟩ : ∃ x, L[j]? = some x := ⟨_, List.getElem?_eq_getElem hjl⟩
  have hxm := List.mem_of_getElem? hx
  have hxv := hL x hxm
  obtain ⟨u, rfl⟩ := Int.eq_ofNat_of_zero_le hxv.1
  have hul : (u : Int) < (nh : Int) := hxv.2
  have hgl' := (hgr.block gl (blk_lt hgl) (by simp [hne])).trans hgl
  have hcx : V.cell? ⟨gl, j, none⟩ = some (.int .i64 (u : Int)) := by rw [blk_cell hgl']; simp [nums, hx]
  have hgTW := (hB.block gT (blk_lt hgT)).trans hgT
  have hgTV := (hgr.block gT (blk_lt hgTW) (by have := blk_lt hgT; simp; omega)).trans hgTW
  have t1' := blk_cell hgTV 1
  obtain ⟨ad, Ax, cx, e, q0, q1, _, _, _, _⟩ := at_T68 hT.hds (u : Int) (by omega) hul
  subst e
  simp only [Int.toNat_natCast] at q1
  have hq1 := cell_grown hgr ((hB.cell (World.block_lt_of_cell? w _ q1)).trans q1) (by have := World.block_lt_of_cell? w _ q1; intro e; dsimp only at e this; omega)
  obtain ⟨ap, e, p0⟩ := Kd.at_int hpr (u : Int) (by omega) (by omega)
  subst e
  simp only [Int.toNat_natCast] at p0
  have hp0 := cell_grown hgr ((hB.cell (World.block_lt_of_cell? w _ p0)).trans p0) (by have := World.block_lt_of_cell? w _ p0; omega)
  have hpl := paid_le (is := L.take j) hpv
  have hpu := paid_le (is := [(u : Int)]) hpv
  have hnext : paid pr (L.take (j + 1)) = paid pr (L.take j) + rd pr (u : Int) := by rw [List.take_add_one, hx]; simp [paid]
  have hclass : ∀ z ∈ L.take (j + 1), z ∈ L.take j ∨ z = (u : Int) := fun z hz => by
   rw [List.take_add_one, hx] at hz
   rcases List.mem_append.1 hz with h | h
   ·exact .inl h
   ·exact .inr (by simpa using h)
  have hpu2 : 0 ≤ rd pr (u : Int) ∧ rd pr (u : Int) ≤ 1000000 := by simp [paid] at hpu; omega
  generalize hfx : (rd_T68 hd (u : Int)).f1 = f at hq1
  have HC : Hid _ := hclass
  clear q0 q1 p0 hgTW hgl' hpu hclass
  refine To.seq (To.code fun Kc hKc => ?_)
  unfold c40_29
  go_wp2
  refine hKc _ _ (To.seq (To.yes rfl (To.skip (To.seq (To.block (To.seq (To.code fun Kc hKc => ?_)))))))
  unfold c40_30
  go_wp2
  refine hKc _ _ (To.seq (To.seq (To.code fun Kc hKc => ?_)))
  unfold c40_31
  go_wp2
  by_cases hneg : f < 0
  ·have HXx := HX.out
   refine hKc _ _ (To.yes (show Value.bool (decide (f < 0)) = .bool true by rw [decide_eq_true hneg]) (To.exit (show exitTo 5 _ = some K5 from hx5) ?_))
   exact HXx _ _ _ _ _ _ _ _ _ _ _ _ _ _ _ _ _ _ _ _ _ _ _ _ _ _ _ _ _ _ _ _ _ _ _ _ _ _ _ _ _ _ _ _ _ _ _ _ _ _ _ _ _ _ _ _ _ _ _ _ _ _ _ _ _ _ _ _ _ _ _ _ _ _ _ _ _ _ _ _ _ _ _ _ _ _ _ _ _ _ _ _ _ _ _ _ _ _ _ _ _ _ _ _ _ _ _ _ _ _ _ _ _ _ _ _ _ _ _ _ _ _ _ _ V hgr ⟨(u : Int), hxm, by rw [show (rd_T68 hd (u : Int)).f1 = f from hfx]; omega⟩
  ·refine hKc _ _ (To.no (show Value.bool (decide (f < 0)) = .bool false by rw [decide_eq_false hneg]) (To.skip ?_))
   have htl : (L.take j).length = j := by rw [List.length_take]; omega
   rw [htl] at hpl
   refine reg40_32 ap nh cp u gh cv lv (paid pr (L.take j)) (rd pr (u : Int)) hul ⟨hpl.1, by omega⟩ hpu2 V hg hp0 _ _ _ _ _ _ _ _ _ _ _ _ _ _ _ _ _ _ _ _ _ _ _ _ _ _ _ _ _ _ _ _ _ _ _ _ _ _ _ _ _ _ _ _ _ _ _ _ _ _ _ _ _ _ _ _ _ _ _ _ _ _ _ _ _ _ _ _ _ _ _ _ _ _ _ _ _ _ _ _ _ _ _ _ _ _ _ _ _ _ _ _ _ _ _ _ _ _ _ _ _ _ _ _ _ _ _ _ _ _ _ _ _ _ _ _ _ _ _ _ _ _ _ _ _ _ _ _ _ _ fun y100 y101 y102 y103 y104 y105 y106 y107 V2 hgr2 hg2 => ?_
   rw [← hnext] at hg2
   refine To.inBlock (To.code fun Kc hKc => ?_)
   unfold c40_33
   go_wp2
   refine hKc _ _ (To.inLoop ?_)
   rw [show ((j : Int) + 1) = ((j + 1 : Nat) : Int) by omega]
   refine ih.out (j + 1) (by omega) _ _ _ _ _ _ _ _ _ _ _ _ _ _ _ _ _ _ _ _ _ _ _ _ _ _ _ _ _ _ _ _ _ _ _ _ _ _ _ _ _ _ _ _ _ _ _ _ _ _ _ _ _ _ _ _ _ _ _ _ _ _ _ _ _ _ _ _ _ _ _ _ _ _ _ _ _ _ _ _ _ _ _ _ _ _ _ _ _ _ _ _ _ _ _ _ _ _ _ _ _ _ _ _ _ _ _ _ _ _ _ _ _ _ _ _ _ _ _ _ _ V2 (grown_trans' hgr hgr2) hg2 fun z hz => ?_
   rcases HC.out z hz with h | rfl
   ·exact HP.out z h
   ·rw [show (rd_T68 hd (u : Int)).f1 = f from hfx]; omega
end
def served (hd : List S68) (nh : Nat) (steps : Int) (L : List Int) (x : Int) : Bool := L.any fun i => (reachRow hd nh steps x.toNat).getD i.toNat false
structure Near (b0 : Nat) (V : World) (gN gO nh : Nat) (rv : List Value) (hd : List S68) (steps : Int) : Prop where
 near : V.heap[gN]? = some (.cells #[.slice (some ⟨gO, 0, none⟩) nh nh] 125 (0, 0))
 rows : V.heap[gO]? = some (.cells rv.toArray 129 (0, 0))
 row : ∀ j : Nat, j < nh → ∃ v, rv[j]? = some v ∧ RowB b0 gO V v (reachRow hd nh steps j)
 len : ∀ j : Nat, j < nh → (reachRow hd nh steps j).length = nh
theorem Near.below {V V2 : World} {b0 gN gO nh : Nat} {rv : List Value} {hd : List S68} {steps : Int} (h : Near b0 V gN gO nh rv hd steps) (hb : Below V.heap.size V V2) : Near b0 V2 gN gO nh rv hd steps :=
 ⟨(hb.block _ (blk_lt h.near)).trans h.near, (hb.block _ (blk_lt h.rows)).trans h.rows, fun j hj => by
  obtain ⟨v, h1, h2⟩ := h.row j hj
  exact ⟨v, h1, h2.kp (Kp.of_below hb)⟩, h.len⟩
theorem Near.grown {V V2 : World} {b0 gN gO nh B : Nat} {rv : List Value} {hd : List S68} {steps : Int} (h : Near b0 V gN gO nh rv hd steps) (hg : V.grownBy V2 (some B)) (hB : B < b0) (h1 : gN ≠ B) (h2 : gO ≠ B) : Near b0 V2 gN gO nh rv hd steps :=
 ⟨(hg.block _ (blk_lt h.near) (by simp [h1])).trans h.near, (hg.block _ (blk_lt h.rows) (by simp [h2])).trans h.rows, fun j hj => by
  obtain ⟨v, e, A, c, e2, hc⟩ := h.row j hj
  refine ⟨v, e, A, c, e2, fun k x hx => ?_⟩
  obtain ⟨ad, e3, h3, h4, h5⟩ := hc k x hx
  exact ⟨ad, e3, cell_grown hg h3 (by rw [add_block]; omega), h4, h5⟩, h.len⟩
def foundHand (pr : List Int) (nh set : Nat) : Hand := ⟨listOf set nh, 0, paid pr (listOf set nh)⟩
def okSet (hd : List S68) (nh : Nat) (steps : Int) (wl : List Int) (set : Nat) : Bool := ((listOf set nh).all fun x => decide (0 ≤ (rd_T68 hd x).f1)) && wl.all fun x => served hd nh steps (listOf set nh) x
def foundHands (hd : List S68) (pr : List Int) (nh : Nat) (steps : Int) (wl : List Int) (k : Nat) : List Hand := ((List.range k).filter (okSet hd nh steps wl)).map (foundHand pr nh)
theorem foundHands_succ (hd : List S68) (pr : List Int) (nh : Nat) (steps : Int) (wl : List Int) (k : Nat) : foundHands hd pr nh steps wl (k + 1) = if okSet hd nh steps wl k then foundHands hd pr nh steps wl k ++ [foundHand pr nh k] else foundHands hd pr nh steps wl k := by
 unfold foundHands
 rw [List.range_succ, List.filter_append, List.map_append]
 cases h : okSet hd nh steps wl k <;> simp [h]
section
variable {cs : List Frame} {Y : Frame → World → Prop} {K K5 : List Item} {hd : List S68}
theorem loopn40 (Aw : Option Addr) (nw cw nh : Nat) (wl : List Int) (steps : Int) (L : List Int) (hLl : L.length ≤ 1000) (hL : ∀ x ∈ L, 0 ≤ x ∧ x < (nh : Int)) (b0 gh gl gN gO : Nat) (rv : List Value) (v1 v3 v4 v16 v75 v76 lv pv : Value) (W1 : World) (hw : Kd.C (Kd.int .i64) W1 Aw nw wl) (hwv : ∀ x ∈ wl, 0 ≤ x ∧ x < (nh : Int))
  (hgl : W1.heap[gl]? = some (.cells (nums .i64 L).toArray 3 (0, 0))) (hgh : W1.heap[gh]? = some (.cells #[.slice (some ⟨gl, 0, none⟩) L.length L.length, lv, pv] 110 (0, 0))) (hN : Near b0 W1 gN gO nh rv hd steps) (hx5 : exitTo 5 K = some K5)
  (hend : ∀ t0 t5 t6 t7 t8 t9 jB jC jA jD yX yF qX yP yY qG yZ yW xD yI jF jP qB qF zA qC yR qY qT zE zF jT qW xH xG qA qZ yU qI yT qJ yC zK jV xF xA qE jS xE xI yN zB xJ zG zJ qO jX xV jQ qK yO xC qS yQ yK xK qH xZ xR qL xN jW qQ qU zC xW yB zH qD xS xP yG jI xB xO zD xU xQ yV yA jL yD qV jJ jZ jO jK yL yJ jE zM zN zL jY jG qP jH qN zI yH yE xT qR xM xL jM jN qM xX yM xY yS jR jU V, Below W1.heap.size W1 V → (∀ x ∈ wl, served hd nh steps L x = true) → To Try.prog cs Y ((baseN 40).at ({ tmps := #[t0, v1, .slice Aw nw cw, v3, v4, t5, t6, t7, t8, t9, jB, jC, jA, jD, yX, yF, v16, ptr gN, qX, ptr gh, yP, yY, qG, yZ, yW, xD, yI, jF, jP, qB, qF, zA, qC, yR, qY, qT, zE, zF, jT, qW, xH, xG, qA, qZ, yU, qI, yT, qJ, yC, zK, jV, xF, xA, qE, jS, xE, xI, yN, zB, xJ, zG, zJ, qO, jX, xV, jQ, qK, yO, xC, qS, yQ, yK, xK, qH, xZ, v75, v76, xR, qL, xN, jW, qQ, qU, zC, xW, yB, zH, qD, xS, xP, yG, jI, xB, xO, zD, xU, xQ, yV, yA, jL, yD, qV, jJ, jZ, jO, jK, yL, yJ, jE, zM, zN, zL, jY, jG, qP, jH, qN, zI, yH, yE, xT, qR, xM, xL, jM, jN, qM, xX, yM, xY, yS, jR, jU], defers := [] } : Act) K) V)
  (hexit : ∀ t0 t5 t6 t7 t8 t9 jB jC jA jD yX yF qX yP yY qG yZ yW xD yI jF jP qB qF zA qC yR qY qT zE zF jT qW xH xG qA qZ yU qI yT qJ yC zK jV xF xA qE jS xE xI yN zB xJ zG zJ qO jX xV jQ qK yO xC qS yQ yK xK qH xZ xR qL xN jW qQ qU zC xW yB zH qD xS xP yG jI xB xO zD xU xQ yV yA jL yD qV jJ jZ jO jK yL yJ jE zM zN zL jY jG qP jH qN zI yH yE xT qR xM xL jM jN qM xX yM xY yS jR jU V, Below W1.heap.size W1 V → (∃ x ∈ wl, served hd nh steps L x = false) → To Try.prog cs Y ((baseN 40).at ({ tmps := #[t0, v1, .slice Aw nw cw, v3, v4, t5, t6, t7, t8, t9, jB, jC, jA, jD, yX, yF, v16, ptr gN, qX, ptr gh, yP, yY, qG, yZ, yW, xD, yI, jF, jP, qB, qF, zA, qC, yR, qY, qT, zE, zF, jT, qW, xH, xG, qA, qZ, yU, qI, yT, qJ, yC, zK, jV, xF, xA, qE, jS, xE, xI, yN, zB, xJ, zG, zJ, qO, jX, xV, jQ, qK, yO, xC, qS, yQ, yK, xK, qH, xZ, v75, v76, xR, qL, xN, jW, qQ, qU, zC, xW, yB, zH, qD, xS, xP, yG, jI, xB, xO, zD, xU, xQ, yV, yA, jL, yD, qV, jJ, jZ, jO, jK, yL, yJ, jE, zM, zN, zL, jY, jG, qP, jH, qN, zI, yH, yE, xT, qR, xM, xL, jM, jN, qM, xX, yM, xY, yS, jR, jU], defers := [] } : Act) K5) V) :
  ∀ (r j : Nat), j + r = nw → ∀ t0 t5 t6 t7 t8 t9 jB jC jA jD yX yF qX yP yY qG yZ yW xD yI jF jP qB qF zA qC yR qY qT zE zF jT qW xH xG qA qZ yU qI yT qJ yC zK jV xF xA qE jS xE xI yN zB xJ zG zJ qO jX xV jQ qK yO xC qS yQ yK xK qH xZ xR qL xN jW qQ qU zC xW yB zH qD xS xP yG jI xB xO zD xU xQ yV yA jL yD qV jJ jZ jO jK yL yJ jE jY jG qP jH qN zI yH yE xT qR xM xL jM jN qM xX yM xY yS jR jU V, Below W1.heap.size W1 V → (∀ x ∈ wl.take j, served hd nh steps L x = true) →
   To Try.prog cs Y ((baseN 40).at ({ tmps := #[t0, v1, .slice Aw nw cw, v3, v4, t5, t6, t7, t8, t9, jB, jC, jA, jD, yX, yF, v16, ptr gN, qX, ptr gh, yP, yY, qG, yZ, yW, xD, yI, jF, jP, qB, qF, zA, qC, yR, qY, qT, zE, zF, jT, qW, xH, xG, qA, qZ, yU, qI, yT, qJ, yC, zK, jV, xF, xA, qE, jS, xE, xI, yN, zB, xJ, zG, zJ, qO, jX, xV, jQ, qK, yO, xC, qS, yQ, yK, xK, qH, xZ, v75, v76, xR, qL, xN, jW, qQ, qU, zC, xW, yB, zH, qD, xS, xP, yG, jI, xB, xO, zD, xU, xQ, yV, yA, jL, yD, qV, jJ, jZ, jO, jK, yL, yJ, jE, .slice Aw nw cw, .int .i64 nw, .int .i64 j, jY, jG, qP, jH, qN, zI, yH, yE, xT, qR, xM, xL, jM, jN, qM, xX, yM, xY, yS, jR, jU], defers := [] } : Act) (.code l40_4 :: .inLoop l40_4 :: .inBlock 8 :: K)) V := by
 intro r
 have hlen : wl.length = nw := Kd.C_len hw
 have hmax := Kd.C_max hw
 dsimp only at hend hexit ⊢
 induction r with
 | zero =>
  intro j hj t0 t5 t6 t7 t8 t9 jB jC jA jD yX yF qX yP yY qG yZ yW xD yI jF jP qB qF zA qC yR qY qT zE zF jT qW xH xG qA qZ yU qI yT qJ yC zK jV xF xA qE jS xE xI yN zB xJ zG zJ qO jX xV jQ qK yO xC qS yQ yK xK qH xZ xR qL xN jW qQ qU zC xW yB zH qD xS xP yG jI xB xO zD xU xQ yV yA jL yD qV jJ jZ jO jK yL yJ jE jY jG qP jH qN zI yH yE xT qR xM xL jM jN qM xX yM xY yS jR jU V hB hdone
  obtain rfl : j = nw := by omega
  have hlt : ¬ ((j : Int) < (j : Int)) := by omega
  rw [List.take_of_length_le (by omega)] at hdone
  have HD : Hid _ := hdone
  clear hdone
  refine To.seq (To.code fun Kc hKc => ?_)
  unfold c40_35
  go_wp2
  exact hKc _ _ (To.seq (To.no rfl (To.exit rfl (hend _ _ _ _ _ _ _ _ _ _ _ _ _ _ _ _ _ _ _ _ _ _ _ _ _ _ _ _ _ _ _ _ _ _ _ _ _ _ _ _ _ _ _ _ _ _ _ _ _ _ _ _ _ _ _ _ _ _ _ _ _ _ _ _ _ _ _ _ _ _ _ _ _ _ _ _ _ _ _ _ _ _ _ _ _ _ _ _ _ _ _ _ _ _ _ _ _ _ _ _ _ _ _ _ _ _ _ _ _ _ _ _ _ _ _ _ _ _ _ _ _ _ _ _ V hB HD.out))))
 | succ r ih =>
  intro j hj t0 t5 t6 t7 t8 t9 jB jC jA jD yX yF qX yP yY qG yZ yW xD yI jF jP qB qF zA qC yR qY qT zE zF jT qW xH xG qA qZ yU qI yT qJ yC zK jV xF xA qE jS xE xI yN zB xJ zG zJ qO jX xV jQ qK yO xC qS yQ yK xK qH xZ xR qL xN jW qQ qU zC xW yB zH qD xS xP yG jI xB xO zD xU xQ yV yA jL yD qV jJ jZ jO jK yL yJ jE jY jG qP jH qN zI yH yE xT qR xM xL jM jN qM xX yM xY yS jR jU V hB hdone
  try dsimp only at ih
  replace ih : Hid _ := ih
  have HE : Hid _ := hend
  have HX : Hid _ := hexit
  have HD : Hid _ := hdone
  clear hend hexit hdone
  have hlt : (j : Int) < (nw : Int) := by omega
  have hjl : j < wl.length := by omega
  obtain ⟨aw, e, hc⟩ := Kd.at_int (Kd.C_below hw hB) (j : Int) (by omega) hlt
  subst e
  have hget : wl[j]? = some (rd wl j) := by
   rw [List.getElem?_eq_getElem hjl]; simp [rd, List.getD_eq_getElem?_getD, hjl]
  have hxm := List.mem_of_getElem? hget
  have hxv := hwv _ hxm
  have htk : ∀ z ∈ wl.take (j + 1), z ∈ wl.take j ∨ z = rd wl j := fun z hz => by
   rw [List.take_add_one, hget] at hz
   rcases List.mem_append.1 hz with h | h
   ·exact .inl h
   ·exact .inr (by simpa using h)
  simp only [Int.toNat_natCast] at hc
  generalize rd wl (j : Int) = x at hc hxm hxv htk
  obtain ⟨u, rfl⟩ := Int.eq_ofNat_of_zero_le hxv.1
  have hul : u < nh := by omega
  have HK : Hid _ := htk
  clear hget htk
  refine To.seq (To.code fun Kc hKc => ?_)
  unfold c40_35
  go_wp2
  refine hKc _ _ (To.seq (To.yes rfl (To.skip (To.seq (To.block (To.seq (To.code fun Kc hKc => ?_)))))))
  unfold c40_36
  go_wp2
  have hba : Below V.heap.size V (V.alloc (.cells #[.int .i64 (u : Int)] 3)) := (Below.refl _ _).alloc (Nat.le_refl _) _
  have hW := heap_alloc_new V (.cells #[.int .i64 (u : Int)] 3)
  have hB2 := hB.trans (hba.mono hB.size)
  generalize V.alloc (.cells #[.int .i64 (u : Int)] 3) = V2 at hW hB2 ⊢
  generalize V.heap.size = gW at hW ⊢
  clear hba hc
  have hN2 := hN.below hB2
  have hNA : NearAt b0 V2 gN gW gO nh rv u (reachRow hd nh steps u) := ⟨hN2.near, hW, hN2.rows, hul, hN2.row u hul⟩
  have hgl2 := (hB2.block gl (blk_lt hgl)).trans hgl
  have g0 := blk_cell ((hB2.block gh (blk_lt hgh)).trans hgh) 0
  have C1 : Hid _ := calls90 hNA (some ⟨gl, 0, none⟩) L.length L.length L (kd_block hgl2 hLl) hLl (by rw [hN.len u hul]; exact hL)
  have hsv : served hd nh steps L (u : Int) = (L.any fun x => (reachRow hd nh steps u).getD x.toNat false) := rfl
  generalize hq : (L.any fun x => (reachRow hd nh steps u).getD x.toNat false) = q at C1 hsv
  clear hNA hN2 hgl2
  refine hKc _ _ (To.seq (To.code fun Kc hKc => ?_))
  unfold c40_37
  go_wp2_with (go_at_call 90; refine Calls.mono C1.out ?_; rintro e w' ⟨_, rfl, rfl, rfl⟩; dsimp only)
  cases q with
  | false =>
   have HXx := HX.out
   refine hKc _ _ (To.yes rfl (To.exit (show exitTo 5 _ = some K5 from hx5) ?_))
   exact HXx _ _ _ _ _ _ _ _ _ _ _ _ _ _ _ _ _ _ _ _ _ _ _ _ _ _ _ _ _ _ _ _ _ _ _ _ _ _ _ _ _ _ _ _ _ _ _ _ _ _ _ _ _ _ _ _ _ _ _ _ _ _ _ _ _ _ _ _ _ _ _ _ _ _ _ _ _ _ _ _ _ _ _ _ _ _ _ _ _ _ _ _ _ _ _ _ _ _ _ _ _ _ _ _ _ _ _ _ _ _ _ _ _ _ _ _ _ _ _ _ _ _ _ _ _ hB2 ⟨(u : Int), hxm, hsv⟩
  | true =>
   refine hKc _ _ (To.no rfl (To.skip (To.inBlock (To.code fun Kc hKc => ?_))))
   unfold c40_38
   go_wp2
   refine hKc _ _ (To.inLoop ?_)
   rw [show ((j : Int) + 1) = ((j + 1 : Nat) : Int) by omega]
   refine ih.out (j + 1) (by omega) _ _ _ _ _ _ _ _ _ _ _ _ _ _ _ _ _ _ _ _ _ _ _ _ _ _ _ _ _ _ _ _ _ _ _ _ _ _ _ _ _ _ _ _ _ _ _ _ _ _ _ _ _ _ _ _ _ _ _ _ _ _ _ _ _ _ _ _ _ _ _ _ _ _ _ _ _ _ _ _ _ _ _ _ _ _ _ _ _ _ _ _ _ _ _ _ _ _ _ _ _ _ _ _ _ _ _ _ _ _ _ _ _ _ _ _ _ _ _ _ _ _ hB2 fun z hz => ?_
   rcases HK.out z hz with h | rfl
   ·exact HD.out z h
   ·exact hsv
end
abbrev FV87 : Value := .func (.func 87) #[] #[]
section
variable {cs : List Frame} {Y : Frame → World → Prop} {K : List Item} {Ac Ah : Option Addr} {nc cc nh ch : Nat} {cl : List S122} {hd : List S68}
theorem out40 {w : World} (hT : Trades w Ac nc cc Ah nh ch cl hd) (gT : Nat) (hgT : w.heap[gT]? = some (.cells (tradesV Ac nc cc Ah nh ch) 62 (0, 0))) (Ap : Option Addr) (cp : Nat) (pr : List Int) (hpr : Kd.C (Kd.int .i64) w Ap nh pr) (hpv : ∀ x ∈ pr, 0 ≤ x ∧ x ≤ 999)
  (Aw : Option Addr) (nw cw : Nat) (wl : List Int) (hw : Kd.C (Kd.int .i64) w Aw nw wl) (hwv : ∀ x ∈ wl, 0 ≤ x ∧ x < (nh : Int)) (steps : Int) (v3 : Value) (B b0 gN gO : Nat) (rv : List Value) (hBw : w.heap.size ≤ B) (hBb : B < b0) (hNB : gN ≠ B) (hOB : gO ≠ B)
  (hend : ∀ t0 t1 t2 t3 t4 t5 t6 t7 t8 t9 jC jA jB jD zA yH zP qZ zO yR zB qI zC yZ xG yK jG jQ qD qH zD qE yT xA qV zH zI jU qY jE xJ qC xC yW qK yV qL yE zN jW xI xD qG jT xH xK yP zE xL zJ zM qQ jZ xX jR qM yQ xF qU yS yM xM qJ yB zQ zR xT qN xP jX qS qW zF xY yD zK qF xU xR yI jJ xE xQ zG xW xS yX yC jM yF qX jK qB jP jL yN yL jF xB yY jY qA jH qR jI qP zL yJ yG xV qT xO xN jN jO qO xZ yO yA yU jS jV V o, Below w.heap.size w V → V.heap[B]? = some (.cells (bestV o FV87) 114 (0, 0)) → Held V (bestOf ordFound (foundHands hd pr nh steps wl (2 ^ nh))) o → To Try.prog cs Y ((baseN 40).at ({ tmps := #[t0, t1, t2, t3, t4, t5, t6, t7, t8, t9, jC, jA, jB, jD, zA, yH, ptr B, zP, qZ, zO, yR, zB, qI, zC, yZ, xG, yK, jG, jQ, qD, qH, zD, qE, yT, xA, qV, zH, zI, jU, qY, jE, xJ, qC, xC, yW, qK, yV, qL, yE, zN, jW, xI, xD, qG, jT, xH, xK, yP, zE, xL, zJ, zM, qQ, jZ, xX, jR, qM, yQ, xF, qU, yS, yM, xM, qJ, yB, zQ, zR, xT, qN, xP, jX, qS, qW, zF, xY, yD, zK, qF, xU, xR, yI, jJ, xE, xQ, zG, xW, xS, yX, yC, jM, yF, qX, jK, qB, jP, jL, yN, yL, jF, xB, yY, jY, qA, jH, qR, jI, qP, zL, yJ, yG, xV, qT, xO, xN, jN, jO, qO, xZ, yO, yA, yU, jS, jV], defers := [] } : Act) K) V) :
  ∀ (r k : Nat), k + r = 2 ^ nh → ∀ t0 t5 t6 t7 t8 t9 jC jA jB jD zA yH qZ zO yR zB qI zC yZ xG yK jG jQ qD qH zD qE yT xA qV zH zI jU qY jE xJ qC xC yW qK yV qL yE zN jW xI xD qG jT xH xK yP zE xL zJ zM qQ jZ xX jR qM yQ xF qU yS yM xM qJ yB xT qN xP jX qS qW zF xY yD zK qF xU xR yI jJ xE xQ zG xW xS yX yC jM yF qX jK qB jP jL yN yL jF xB yY jY qA jH qR jI qP zL yJ yG xV qT xO xN jN jO qO xZ yO yA yU jS jV V o, Below w.heap.size w V → Near b0 V gN gO nh rv hd steps → V.heap[B]? = some (.cells (bestV o FV87) 114 (0, 0)) → Held V (bestOf ordFound (foundHands hd pr nh steps wl k)) o →
   To Try.prog cs Y ((baseN 40).at ({ tmps := #[t0, .slice Ap nh cp, .slice Aw nw cw, v3, ptr gT, t5, t6, t7, t8, t9, jC, jA, jB, jD, zA, yH, ptr B, ptr gN, qZ, zO, yR, zB, qI, zC, yZ, xG, yK, jG, jQ, qD, qH, zD, qE, yT, xA, qV, zH, zI, jU, qY, jE, xJ, qC, xC, yW, qK, yV, qL, yE, zN, jW, xI, xD, qG, jT, xH, xK, yP, zE, xL, zJ, zM, qQ, jZ, xX, jR, qM, yQ, xF, qU, yS, yM, xM, qJ, yB, .int .i64 ((2 ^ nh : Nat) : Int), .int .i64 (k : Int), xT, qN, xP, jX, qS, qW, zF, xY, yD, zK, qF, xU, xR, yI, jJ, xE, xQ, zG, xW, xS, yX, yC, jM, yF, qX, jK, qB, jP, jL, yN, yL, jF, xB, yY, jY, qA, jH, qR, jI, qP, zL, yJ, yG, xV, qT, xO, xN, jN, jO, qO, xZ, yO, yA, yU, jS, jV], defers := [] } : Act) (.code l40_2 :: .inLoop l40_2 :: .inBlock 4 :: K)) V := by
 intro r
 have hmh := hT.maxh
 have hlenh : hd.length = nh := Kd.C_len hT.hds
 have hpow : 2 ^ nh ≤ 64 := Nat.le_trans (Nat.pow_le_pow_right (by decide) hmh) (by decide)
 dsimp only at hend ⊢
 generalize hN2 : 2 ^ nh = N at *
 induction r with
 | zero =>
  intro k hk t0 t5 t6 t7 t8 t9 jC jA jB jD zA yH qZ zO yR zB qI zC yZ xG yK jG jQ qD qH zD qE yT xA qV zH zI jU qY jE xJ qC xC yW qK yV qL yE zN jW xI xD qG jT xH xK yP zE xL zJ zM qQ jZ xX jR qM yQ xF qU yS yM xM qJ yB xT qN xP jX qS qW zF xY yD zK qF xU xR yI jJ xE xQ zG xW xS yX yC jM yF qX jK qB jP jL yN yL jF xB yY jY qA jH qR jI qP zL yJ yG xV qT xO xN jN jO qO xZ yO yA yU jS jV V o hB hNr hBV hH
  obtain rfl : k = N := by omega
  have hlt : ¬ ((k : Int) < (k : Int)) := by omega
  have HH : Hid _ := hH
  clear hH hNr
  refine To.seq (To.code fun Kc hKc => ?_)
  unfold c40_25
  go_wp2
  exact hKc _ _ (To.seq (To.no rfl (To.exit rfl (hend _ _ _ _ _ _ _ _ _ _ _ _ _ _ _ _ _ _ _ _ _ _ _ _ _ _ _ _ _ _ _ _ _ _ _ _ _ _ _ _ _ _ _ _ _ _ _ _ _ _ _ _ _ _ _ _ _ _ _ _ _ _ _ _ _ _ _ _ _ _ _ _ _ _ _ _ _ _ _ _ _ _ _ _ _ _ _ _ _ _ _ _ _ _ _ _ _ _ _ _ _ _ _ _ _ _ _ _ _ _ _ _ _ _ _ _ _ _ _ _ _ _ _ _ _ _ _ _ _ _ _ _ V o hB hBV HH.out))))
 | succ r ih =>
  intro k hk t0 t5 t6 t7 t8 t9 jC jA jB jD zA yH qZ zO yR zB qI zC yZ xG yK jG jQ qD qH zD qE yT xA qV zH zI jU qY jE xJ qC xC yW qK yV qL yE zN jW xI xD qG jT xH xK yP zE xL zJ zM qQ jZ xX jR qM yQ xF qU yS yM xM qJ yB xT qN xP jX qS qW zF xY yD zK qF xU xR yI jJ xE xQ zG xW xS yX yC jM yF qX jK qB jP jL yN yL jF xB yY jY qA jH qR jI qP zL yJ yG xV qT xO xN jN jO qO xZ yO yA yU jS jV V o hB hNr hBV hH
  try dsimp only at ih
  replace ih : Hid _ := ih
  have HE : Hid _ := hend
  have HH : Hid _ := hH
  have HN : Hid _ := hNr
  clear hend hH hNr
  have hlt : (k : Int) < (N : Int) := by omega
  have hk63 : k < 64 := by omega
  have hgTV := (hB.block gT (blk_lt hgT)).trans hgT
  have t1' := blk_cell hgTV 1
  have C89 : Hid _ := fun V2 => calls89 k nh (by omega) (by omega) V2
  refine To.seq (To.code fun Kc hKc => ?_)
  unfold c40_25
  go_wp2
  refine hKc _ _ (To.seq (To.yes rfl (To.skip (To.seq (To.block (To.seq (To.code fun Kc hKc => ?_)))))))
  unfold c40_26
  go_wp2
  refine hKc _ _ (To.seq (To.code fun Kc hKc => ?_))
  unfold c40_27
  go_wp2_with (go_at_call 89; refine Calls.mono (C89.out _) ?_; rintro e V1 ⟨_, rfl, ⟨gl, rfl, hgl1, hgl2⟩, hb2⟩; dsimp only)
  have hll := listOf_len k nh
  have hlm := fun x (hx : x ∈ listOf k nh) => listOf_mem hx
  have hsucc := foundHands_succ hd pr nh steps wl k
  have hfh : foundHand pr nh k = ⟨listOf k nh, 0, paid pr (listOf k nh)⟩ := rfl
  have hok : okSet hd nh steps wl k = (((listOf k nh).all fun x => decide (0 ≤ (rd_T68 hd x).f1)) && wl.all fun x => served hd nh steps (listOf k nh) x) := rfl
  generalize listOf k nh = L at hll hlm hfh hok hgl2 ⊢
  have hB1 : Below w.heap.size w V1 := hB.trans (hb2.mono hB.size)
  have hg := heap_alloc_new V1 (.cells #[.slice (some ⟨gl, 0, none⟩) L.length L.length, .int .i64 0, .int .i64 0] 110)
  have hba : Below V1.heap.size V1 (V1.alloc (.cells #[.slice (some ⟨gl, 0, none⟩) L.length L.length, .int .i64 0, .int .i64 0] 110)) := (Below.refl _ _).alloc (Nat.le_refl _) _
  have hVW := hb2.trans (hba.mono hb2.size)
  have hglt : gl < V1.heap.size := blk_lt hgl2
  have hgl3 := (hba.block gl hglt).trans hgl2
  have hBW := hB1.trans (hba.mono hB1.size)
  have hbase := hB1.size
  have hBV3 := (hVW.block B (blk_lt hBV)).trans hBV
  have hBV1 := (hb2.block B (blk_lt hBV)).trans hBV
  have hN1 := HN.out.below hb2
  have hH1 := Held.grown HH.out (grown_below (B := B) hb2) ⟨_, hBV⟩
  have hmove : ∀ V2, (V1.alloc (.cells #[.slice (some ⟨gl, 0, none⟩) L.length L.length, .int .i64 0, .int .i64 0] 110)).grownBy V2 (some V1.heap.size) → Below V1.heap.size V1 V2 := fun V2 h => hba.grown h hba.size (by simp)
  have hN2 : Hid (∀ V2, Below V1.heap.size V1 V2 → Near b0 V2 gN gO nh rv hd steps) := fun V2 h => hN1.below h
  have hH2 : Hid (∀ V2, Below V1.heap.size V1 V2 → Held V2 (bestOf ordFound (foundHands hd pr nh steps wl k)) o) := fun V2 h => Held.grown hH1 (grown_below h) ⟨_, hBV1⟩
  have hB2' : Hid (∀ V2, Below V1.heap.size V1 V2 → Below w.heap.size w V2 ∧ V2.heap[B]? = some (.cells (bestV o FV87) 114 (0, 0)) ∧ V2.heap[gl]? = some (.cells (nums .i64 L).toArray 3 (0, 0))) := fun V2 h => ⟨hB1.trans (h.mono hB1.size), (h.block B (blk_lt hBV1)).trans hBV1, (h.block gl hglt).trans hgl2⟩
  have HM : Hid _ := hmove
  clear hN1 hH1 hmove
  have hVs := blk_lt hBV
  have hBg : B < V1.heap.size := Nat.lt_of_lt_of_le hVs hb2.size
  generalize V1.heap.size = gh at hg hglt hbase hBg hN2 hH2 hB2' HM ⊢
  generalize V1.alloc (.cells #[.slice (some ⟨gl, 0, none⟩) L.length L.length, .int .i64 0, .int .i64 0] 110) = W1 at hg hgl3 hBW hBV3 HM ⊢
  clear hb2 hba hVW HH HN hgl2 hB1 hgTV t1' C89 hBV1
  have hout : Hid (∀ t0 t5 t6 t7 t8 t9 jC jA jB jD zA yH qZ zO yR zB qI zC yZ xG yK jG jQ qD qH zD qE yT xA qV zH zI jU qY jE xJ qC xC yW qK yV qL yE zN jW xI xD qG jT xH xK yP zE xL zJ zM qQ jZ xX jR qM yQ xF qU yS yM xM qJ yB xT qN xP jX qS qW zF xY yD zK qF xU xR yI jJ xE xQ zG xW xS yX yC jM yF qX jK qB jP jL yN yL jF xB yY jY qA jH qR jI qP zL yJ yG xV qT xO xN jN jO qO xZ yO yA yU jS jV V2 o2, Below w.heap.size w V2 → Near b0 V2 gN gO nh rv hd steps → V2.heap[B]? = some (.cells (bestV o2 FV87) 114 (0, 0)) → Held V2 (bestOf ordFound (foundHands hd pr nh steps wl (k + 1))) o2 →
    To Try.prog cs Y ((baseN 40).at ({ tmps := #[t0, .slice Ap nh cp, .slice Aw nw cw, v3, ptr gT, t5, t6, t7, t8, t9, jC, jA, jB, jD, zA, yH, ptr B, ptr gN, qZ, zO, yR, zB, qI, zC, yZ, xG, yK, jG, jQ, qD, qH, zD, qE, yT, xA, qV, zH, zI, jU, qY, jE, xJ, qC, xC, yW, qK, yV, qL, yE, zN, jW, xI, xD, qG, jT, xH, xK, yP, zE, xL, zJ, zM, qQ, jZ, xX, jR, qM, yQ, xF, qU, yS, yM, xM, qJ, yB, .int .i64 (N : Int), .int .i64 (k : Int), xT, qN, xP, jX, qS, qW, zF, xY, yD, zK, qF, xU, xR, yI, jJ, xE, xQ, zG, xW, xS, yX, yC, jM, yF, qX, jK, qB, jP, jL, yN, yL, jF, xB, yY, jY, qA, jH, qR, jI, qP, zL, yJ, yG, xV, qT, xO, xN, jN, jO, qO, xZ, yO, yA, yU, jS, jV], defers := [] } : Act) (.code (.region 40 c40_40 false) :: .inLoop l40_2 :: .inBlock 4 :: K)) V2) := by
   intro t0 t5 t6 t7 t8 t9 jC jA jB jD zA yH qZ zO yR zB qI zC yZ xG yK jG jQ qD qH zD qE yT xA qV zH zI jU qY jE xJ qC xC yW qK yV qL yE zN jW xI xD qG jT xH xK yP zE xL zJ zM qQ jZ xX jR qM yQ xF qU yS yM xM qJ yB xT qN xP jX qS qW zF xY yD zK qF xU xR yI jJ xE xQ zG xW xS yX yC jM yF qX jK qB jP jL yN yL jF xB yY jY qA jH qR jI qP zL yJ yG xV qT xO xN jN jO qO xZ yO yA yU jS jV V2 o2 q1 q2 q3 q4
   have Q2 : Hid _ := q2
   have Q4 : Hid _ := q4
   clear q2 q4
   refine To.code fun Kc hKc => ?_
   unfold c40_40
   go_wp2
   refine hKc _ _ (To.inLoop ?_)
   rw [show ((k : Int) + 1) = ((k + 1 : Nat) : Int) by omega]
   exact ih.out (k + 1) (by omega) _ _ _ _ _ _ _ _ _ _ _ _ _ _ _ _ _ _ _ _ _ _ _ _ _ _ _ _ _ _ _ _ _ _ _ _ _ _ _ _ _ _ _ _ _ _ _ _ _ _ _ _ _ _ _ _ _ _ _ _ _ _ _ _ _ _ _ _ _ _ _ _ _ _ _ _ _ _ _ _ _ _ _ _ _ _ _ _ _ _ _ _ _ _ _ _ _ _ _ _ _ _ _ _ _ _ _ _ _ _ _ _ _ _ _ _ _ _ _ _ _ _ _ _ _ V2 o2 q1 Q2.out q3 Q4.out
  refine hKc _ _ (To.seq (To.seq (To.code fun Kc hKc => ?_)))
  have g0 := blk_cell hg 0
  unfold c40_28
  go_wp2
  refine hKc _ _ (To.block (To.loop ?_))
  refine loopc40 hT gT hgT Ap cp pr hpr hpv L hlm (by omega) gh gl _ _ _ _ _ _ _ _ W1 hBW hbase hgl3 (by omega) rfl ?_ ?_ L.length 0 (by omega) _ _ _ _ _ _ _ _ _ _ _ _ _ _ _ _ _ _ _ _ _ _ _ _ _ _ _ _ _ _ _ _ _ _ _ _ _ _ _ _ _ _ _ _ _ _ _ _ _ _ _ _ _ _ _ _ _ _ _ _ _ _ _ _ _ _ _ _ _ _ _ _ _ _ _ _ _ _ _ _ _ _ _ _ _ _ _ _ _ _ _ _ _ _ _ _ _ _ _ _ _ _ _ _ _ _ _ _ _ _ _ _ _ _ _ _ _ _ _ _ _ W1 ⟨rfl, rfl, rfl, Nat.le_refl _, fun _ _ _ => rfl⟩ hg (fun x hx => by simp at hx)
  ·intro t0 t5 t6 t7 t8 t9 jC jA jB jD zA yH qZ yR zB qI zC yZ xG yK jG jQ qD qH zD qE yT xA qV zH zI jU qY jE xJ qC xC yW qK yV qL yE zN jW xI xD qG jT xH xK yP zE xL zJ zM qQ jZ xX jR qM yQ xF qU yS yM xM qJ yB xT qN xP jX qS qW zF xY yD zK qF xU xR yI jJ xE xQ zG xW xS yX yC jM yF qX jK qB jP jL yN yL jF xB yY jY qA jH qR jI qP zL yJ yG xV qT xO xN jN jO qO xZ yO yA yU jS jV V2 hgr hg2 hpos
   have hm := HM.out V2 hgr
   obtain ⟨r1, r2, r3⟩ := hB2'.out V2 hm
   have hN3 : Hid _ := hN2.out V2 hm
   have hH3 : Hid _ := hH2.out V2 hm
   have HPs : Hid _ := hpos
   clear hpos
   refine To.seq (To.seq (To.code fun Kc hKc => ?_))
   unfold c40_34
   go_wp2
   refine hKc _ _ (To.block (To.loop ?_))
   refine loopn40 Aw nw cw nh wl steps L (by omega) hlm b0 gh gl gN gO rv _ _ _ _ _ _ _ _ V2 (Kd.C_below hw r1) hwv r3 hg2 hN3.out rfl ?_ ?_ nw 0 (by omega) _ _ _ _ _ _ _ _ _ _ _ _ _ _ _ _ _ _ _ _ _ _ _ _ _ _ _ _ _ _ _ _ _ _ _ _ _ _ _ _ _ _ _ _ _ _ _ _ _ _ _ _ _ _ _ _ _ _ _ _ _ _ _ _ _ _ _ _ _ _ _ _ _ _ _ _ _ _ _ _ _ _ _ _ _ _ _ _ _ _ _ _ _ _ _ _ _ _ _ _ _ _ _ _ _ _ _ _ _ _ _ _ _ _ _ _ _ _ _ _ _ V2 (Below.refl _ _) (fun x hx => by simp at hx)
   ·intro t0 t5 t6 t7 t8 t9 jC jA jB jD zA yH qZ yR zB qI zC yZ xG yK jG jQ qD qH zD qE yT xA qV zH zI jU qY jE xJ qC xC yW qK yV qL yE zN jW xI xD qG jT xH xK yP zE xL zJ zM qQ jZ xX jR qM yQ xF qU yS yM xM qJ yB xT qN xP jX qS qW zF xY yD zK qF xU xR yI jJ xE xQ zG xW xS yX yC jM yF qX jK qB jP jL yN yL jF xB yY jY qA jH qR jI qP zL yJ yG xV qT xO xN jN jO qO xZ yO yA yU jS jV V3 hb3 hserved
    have htrue : okSet hd nh steps wl k = true := by
     rw [hok, Bool.and_eq_true, List.all_eq_true, List.all_eq_true]
     exact ⟨fun z hz => by have := HPs.out z hz; simpa using this, hserved⟩
    rw [htrue, if_pos rfl, hfh] at hsucc
    have hg3 := (hb3.block gh (blk_lt hg2)).trans hg2
    have hgl3' := (hb3.block gl (blk_lt r3)).trans r3
    have hBV4 := (hb3.block B (blk_lt r2)).trans r2
    have hH4 : Hid _ := Held.grown hH3.out (grown_below (B := B) hb3) ⟨_, r2⟩
    have hN4 : Hid _ := hN3.out.below hb3
    have hlens : ∀ x ∈ foundHands hd pr nh steps wl k, x.cards.length ≤ 1000 := fun x hx => by
     unfold foundHands at hx
     obtain ⟨s, _, rfl⟩ := List.mem_map.1 hx
     have := listOf_len s nh
     show (listOf s nh).length ≤ 1000
     omega
    have C80 : Hid _ := calls80f o ⟨L, 0, paid pr L⟩ (some ⟨gl, 0, none⟩) L.length V3 B hBV4 (Held.best hH4.out (take1_len hlens)) (kd_block hgl3' (by show L.length ≤ 1000; omega))
    have x0 := blk_cell hg3 0
    have x1 := blk_cell hg3 1
    have x2 := blk_cell hg3 2
    have hb34 := r1.trans (hb3.mono r1.size)
    have HS : Hid _ := hsucc
    have HSV : Hid _ := hserved
    clear hserved hsucc hlens hfh hok htrue
    refine To.code fun Kc hKc => ?_
    unfold c40_39
    go_wp2_with (go_at_call 80; refine Calls.mono C80.out ?_; rintro e V4 ⟨_, rfl, hgr4, hB4⟩; dsimp only)
    refine hKc _ _ (To.inBlock ?_)
    refine hout.out _ _ _ _ _ _ _ _ _ _ _ _ _ _ _ _ _ _ _ _ _ _ _ _ _ _ _ _ _ _ _ _ _ _ _ _ _ _ _ _ _ _ _ _ _ _ _ _ _ _ _ _ _ _ _ _ _ _ _ _ _ _ _ _ _ _ _ _ _ _ _ _ _ _ _ _ _ _ _ _ _ _ _ _ _ _ _ _ _ _ _ _ _ _ _ _ _ _ _ _ _ _ _ _ _ _ _ _ _ _ _ _ _ _ _ _ _ _ _ _ _ _ _ _ _ V4 _ (hb34.grown hgr4 hb34.size (by simp; omega)) (hN4.out.grown hgr4 hBb hNB hOB) hB4 ?_
    rw [HS.out, bestOf_snoc]
    have hgr2B := Held.grown hH4.out hgr4 ⟨_, hBV4⟩
    have hglB : gl ≠ B := fun e => by
     subst e
     rw [hgl3'] at hBV4
     injection hBV4 with h
     injection h with _ h _
     exact absurd h (by decide)
    have hg4 : V4.heap[gl]? = some (.cells (nums .i64 L).toArray 3 (0, 0)) := (hgr4.block gl (blk_lt hgl3') (by simp [hglB])).trans hgl3'
    cases hbo : bestOf ordFound (foundHands hd pr nh steps wl k) with
    | none =>
     rw [hbo] at hgr2B
     rw [show o = none from hgr2B]
     exact ⟨gl, rfl, hg4⟩
    | some h =>
     rw [hbo] at hgr2B
     obtain ⟨g', e, hg'⟩ := hgr2B
     subst e
     unfold take1
     dsimp only
     by_cases hlt2 : ordFound ⟨L, 0, paid pr L⟩ h < 0
     ·rw [if_pos hlt2, if_pos (by simp [better, hlt2])]
      exact ⟨gl, rfl, hg4⟩
     ·rw [if_neg hlt2, if_neg (by simp [better, hlt2])]
      exact ⟨g', rfl, hg'⟩
   ·intro t0 t5 t6 t7 t8 t9 jC jA jB jD zA yH qZ yR zB qI zC yZ xG yK jG jQ qD qH zD qE yT xA qV zH zI jU qY jE xJ qC xC yW qK yV qL yE zN jW xI xD qG jT xH xK yP zE xL zJ zM qQ jZ xX jR qM yQ xF qU yS yM xM qJ yB xT qN xP jX qS qW zF xY yD zK qF xU xR yI jJ xE xQ zG xW xS yX yC jM yF qX jK qB jP jL yN yL jF xB yY jY qA jH qR jI qP zL yJ yG xV qT xO xN jN jO qO xZ yO yA yU jS jV V3 hb3 hneg
    have hfalse : okSet hd nh steps wl k = false := by
     rw [hok, Bool.and_eq_false_iff]
     refine .inr (List.all_eq_false.2 ?_)
     obtain ⟨z, hz, hzn⟩ := hneg
     exact ⟨z, hz, by rw [hzn]; decide⟩
    rw [hfalse] at hsucc
    refine hout.out _ _ _ _ _ _ _ _ _ _ _ _ _ _ _ _ _ _ _ _ _ _ _ _ _ _ _ _ _ _ _ _ _ _ _ _ _ _ _ _ _ _ _ _ _ _ _ _ _ _ _ _ _ _ _ _ _ _ _ _ _ _ _ _ _ _ _ _ _ _ _ _ _ _ _ _ _ _ _ _ _ _ _ _ _ _ _ _ _ _ _ _ _ _ _ _ _ _ _ _ _ _ _ _ _ _ _ _ _ _ _ _ _ _ _ _ _ _ _ _ _ _ _ _ _ V3 o (r1.trans (hb3.mono r1.size)) (hN3.out.below hb3) ((hb3.block B (blk_lt r2)).trans r2) ?_
    rw [hsucc]
    exact Held.grown hH3.out (grown_below hb3) ⟨_, r2⟩
  ·intro t0 t5 t6 t7 t8 t9 jC jA jB jD zA yH qZ yR zB qI zC yZ xG yK jG jQ qD qH zD qE yT xA qV zH zI jU qY jE xJ qC xC yW qK yV qL yE zN jW xI xD qG jT xH xK yP zE xL zJ zM qQ jZ xX jR qM yQ xF qU yS yM xM qJ yB xT qN xP jX qS qW zF xY yD zK qF xU xR yI jJ xE xQ zG xW xS yX yC jM yF qX jK qB jP jL yN yL jF xB yY jY qA jH qR jI qP zL yJ yG xV qT xO xN jN jO qO xZ yO yA yU jS jV V2 hgr hneg
   have hm := HM.out V2 hgr
   obtain ⟨r1, r2, r3⟩ := hB2'.out V2 hm
   have hfalse : okSet hd nh steps wl k = false := by
    rw [hok, Bool.and_eq_false_iff]
    refine .inl (List.all_eq_false.2 ?_)
    obtain ⟨z, hz, hzn⟩ := hneg
    exact ⟨z, hz, by simp; omega⟩
   rw [hfalse] at hsucc
   refine hout.out _ _ _ _ _ _ _ _ _ _ _ _ _ _ _ _ _ _ _ _ _ _ _ _ _ _ _ _ _ _ _ _ _ _ _ _ _ _ _ _ _ _ _ _ _ _ _ _ _ _ _ _ _ _ _ _ _ _ _ _ _ _ _ _ _ _ _ _ _ _ _ _ _ _ _ _ _ _ _ _ _ _ _ _ _ _ _ _ _ _ _ _ _ _ _ _ _ _ _ _ _ _ _ _ _ _ _ _ _ _ _ _ _ _ _ _ _ _ _ _ _ _ _ _ _ V2 o r1 (hN2.out V2 hm) r2 ?_
   rw [hsucc]
   exact hH2.out V2 hm
end
theorem bfs_len (hd : List S68) : ∀ (k : Nat) (s : List Int × List Int), (bfs hd k s).length = s.1.length := by
 have see : ∀ (d : Int) (l : List Int) (s : List Int × List Int), (l.foldl (see1 d) s).1.length = s.1.length := by
  intro d l
  induction l with
  | nil => intro s; rfl
  | cons n l ih =>
   intro s
   rw [List.foldl_cons, ih]
   unfold see1
   split <;> simp
 intro k
 induction k with
 | zero => intro s; rfl
 | succ k ih =>
  rintro ⟨out, q⟩
  cases q with
  | nil => rfl
  | cons d q =>
   show (bfs hd k (visit hd d (out, q))).length = _
   rw [ih]
   exact see d _ (out, q)
theorem stepsOf_len (hd : List S68) (nh h : Nat) : (stepsOf hd nh h).length = nh := by
 unfold stepsOf
 rw [bfs_len]
 simp
theorem reachRow_len (hd : List S68) (nh : Nat) (steps : Int) (j : Nat) : (reachRow hd nh steps j).length = nh := by
 unfold reachRow
 rw [List.length_map, stepsOf_len]
section
variable {Ac Ah : Option Addr} {nc cc nh ch : Nat} {cl : List S122} {hd : List S68}
set_option maxHeartbeats 4000000 in
theorem calls40 {w : World} (hT : Trades w Ac nc cc Ah nh ch cl hd) (Ap : Option Addr) (cp : Nat) (pr : List Int) (hpr : Kd.C (Kd.int .i64) w Ap nh pr) (hpv : ∀ x ∈ pr, 0 ≤ x ∧ x ≤ 999)
  (Aw : Option Addr) (nw cw : Nat) (wl : List Int) (hw : Kd.C (Kd.int .i64) w Aw nw wl) (hwv : ∀ x ∈ wl, 0 ≤ x ∧ x < (nh : Int)) (steps : Int) (hst : 0 ≤ steps ∧ steps ≤ 6) (h : Hand) (hbest : bestOf ordFound (foundHands hd pr nh steps wl (2 ^ nh)) = some h) :
  Calls Try.prog 40 #[.agg (tradesV Ac nc cc Ah nh ch), .slice Ap nh cp, .slice Aw nw cw, .int .i64 steps] w fun e w' => ∃ v, e = .returned v ∧ Below w.heap.size w w' ∧ ∃ g, v = .tuple #[.slice (some ⟨g, 0, none⟩) h.cards.length h.cards.length, .int .i64 h.price, .int .i64 0] ∧ w'.heap[g]? = some (.cells (nums .i64 h.cards).toArray 3 (0, 0)) := by
 refine calls_of_to (tmps := #[.agg (tradesV Ac nc cc Ah nh ch), .slice Ap nh cp, .slice Aw nw cw, .int .i64 steps, undef, undef, undef, undef, undef, undef, undef, undef, undef, undef, undef, undef, undef, undef, undef, undef, undef, undef, undef, undef, undef, undef, undef, undef, undef, undef, undef, undef, undef, undef, undef, undef, undef, undef, undef, undef, undef, undef, undef, undef, undef, undef, undef, undef, undef, undef, undef, undef, undef, undef, undef, undef, undef, undef, undef, undef, undef, undef, undef, undef, undef, undef, undef, undef, undef, undef, undef, undef, undef, undef, undef, undef, undef, undef, undef, undef, undef, undef, undef, undef, undef, undef, undef, undef, undef, undef, undef, undef, undef, undef, undef, undef, undef, undef, undef, undef, undef, undef, undef, undef, undef, undef, undef, undef, undef, undef, undef, undef, undef, undef, undef, undef, undef, undef, undef, undef, undef, undef, undef, undef, undef, undef, undef, undef, undef, undef, undef, undef, undef]) Try.func40 body40 (by kernel_rfl) fun cs => ?_
 have hmh := hT.maxh
 unfold b40
 refine To.seq (To.code fun Kc hKc => ?_)
 unfold c40_0
 go_wp2
 have hgT := heap_alloc_new w (.cells (tradesV Ac nc cc Ah nh ch) 62)
 have hb : Below w.heap.size w (w.alloc (.cells (tradesV Ac nc cc Ah nh ch) 62)) := (Below.refl _ _).alloc (Nat.le_refl _) _
 generalize w.alloc (.cells (tradesV Ac nc cc Ah nh ch) 62) = W at hgT hb ⊢
 generalize hgs : w.heap.size = gT at hgT hb ⊢
 have hT1 := hT.below (hgs ▸ hb)
 have hpr1 := Kd.C_below hpr (hgs ▸ hb)
 have hw1 := Kd.C_below hw (hgs ▸ hb)
 have g0 := blk_cell hgT 0
 have g1 := blk_cell hgT 1
 refine hKc _ _ (To.scope (To.seq (To.seq (To.code fun Kc hKc => ?_))))
 have C86 : Hid _ := calls86 hT1
 unfold c40_1
 go_wp2_with (go_at_call 86; refine Calls.mono C86.out ?_; rintro e W2 ⟨_, rfl, rfl, hb2⟩; dsimp only)
 have hgT2 := (hb2.block gT (blk_lt hgT)).trans hgT
 have t1 := blk_cell hgT2 1
 refine hKc _ _ (To.seq (To.code fun Kc hKc => ?_))
 unfold c40_2
 go_wp2
 refine hKc _ _ (To.no rfl (To.skip (To.seq (To.seq (To.code fun Kc hKc => ?_)))))
 have hltn : ¬ ((nh : Int) < (nh : Int)) := by omega
 unfold c40_4
 go_wp2
 refine hKc _ _ (To.no (by rfl) (To.skip (To.seq (To.seq (To.code fun Kc hKc => ?_)))))
 unfold c40_6
 go_wp2
 refine hKc _ _ (To.no (by rfl) (To.skip (To.seq (To.seq (To.code fun Kc hKc => ?_)))))
 unfold c40_8
 go_wp2
 have hB2 : Below w.heap.size w W2 := (hgs ▸ hb).trans (hb2.mono (hgs ▸ hb).size)
 have hbW2 : Below W.heap.size W W2 := hb2
 refine hKc _ _ (To.block (To.loop ?_))
 refine loopp40 (w := W2) Ap nh cp pr (Kd.C_below hpr hB2) hpv _ _ _ _ ?_ nh 0 (by omega) _ _ _ _ _ _ _ _ _ _ _ _ _ _ _ _ _ _ _ _ _ _ _ _ _ _ _ _ _ _ _ _ _ _ _ _ _ _ _ _ _ _ _ _ _ _ _ _ _ _ _ _ _ _ _ _ _ _ _ _ _ _ _ _ _ _ _ _ _ _ _ _ _ _ _ _ _ _ _ _ _ _ _ _ _ _ _ _ _ _ _ _ _ _ _ _ _ _ _ _ _ _ _ _ _ _ _ _ _ _ _ _ _ _ _ _ _ _ _ _ _ _ _ _ _ _ W2 (Below.refl _ _)
 intro t0 t5 t6 t7 t8 t9 jC jA jB jD zC yI zS xR qZ zI yT zD qI zE zB xG yL jG jQ qD qH zF qE yV xA qV zK zM jU qY jE xJ qC xC yY qK yX qL yF zR jW xI xD qG jT xH xK yR zG xL zN zQ qQ jZ xY jR qM yS xF qU yU yO xM qJ yC yN zL xU qN xP jX qS qW zH xZ yE zO qF xV xS yJ jJ xE xQ zJ xX xT yZ yD jM yG qX jK qB jP jL yP yM jF xB zA jY qA jH qR jI qP zP yK yH xW qT xO xN jN jO qO yA yQ yB yW jS jV V1 hb3
 refine To.seq (To.seq (To.code fun Kc hKc => ?_))
 unfold c40_14
 go_wp2
 refine hKc _ _ (To.block (To.loop ?_))
 have hbV1 : Below W.heap.size W V1 := hbW2.trans (hb3.mono hbW2.size)
 have hgTV1 := (hbV1.block gT (blk_lt hgT)).trans hgT
 refine loopw40 (w := V1) Ac Ah nc cc nh ch (by omega) gT hgTV1 Aw nw cw wl (Kd.C_below hw1 hbV1) (fun x hx => ⟨(hwv x hx).1, by have := (hwv x hx).2; omega⟩) _ _ _ ?_ nw 0 (by omega) _ _ _ _ _ _ _ _ _ _ _ _ _ _ _ _ _ _ _ _ _ _ _ _ _ _ _ _ _ _ _ _ _ _ _ _ _ _ _ _ _ _ _ _ _ _ _ _ _ _ _ _ _ _ _ _ _ _ _ _ _ _ _ _ _ _ _ _ _ _ _ _ _ _ _ _ _ _ _ _ _ _ _ _ _ _ _ _ _ _ _ _ _ _ _ _ _ _ _ _ _ _ _ _ _ _ _ _ _ _ _ _ _ _ _ _ _ _ _ _ _ _ _ _ _ _ V1 (Below.refl _ _)
 intro t0 t5 t6 t7 t8 t9 jC jA jB jD zC yI zS xR qZ zI yT zD qI zE zB xG yL jG jQ qD qH zF qE yV xA qV zK zM jU qY jE xJ qC xC yY qK yX qL yF zR jW xI xD qG jT xH xK yR zG xL zN zQ qQ jZ xY jR qM yS xF qU yU yO xM qJ yC yN zL xU qN xP jX qS qW zH xZ yE zO qF xV xS yJ jJ xE xQ zJ xX xT yZ yD jM yG qX jK qB jP jL yP yM jF xB zA jY qA jH qR jI qP zP yK yH xW qT xO xN jN jO qO yA yQ yB yW jS jV V2 hb4
 have hbV2 : Below W.heap.size W V2 := hbV1.trans (hb4.mono hbV1.size)
 refine To.seq (To.seq (To.code fun Kc hKc => ?_))
 have hb61 := between61 steps 0 6 V2
 rw [decide_eq_true hst] at hb61
 have C1 : Hid _ := hb61
 clear hb61
 unfold c40_20
 go_wp2_with (go_at_call 61; refine Calls.mono C1.out ?_; rintro e V3 ⟨rfl, hb5⟩; dsimp only)
 have hbV3 : Below W.heap.size W V3 := hbV2.trans (hb5.mono hbV2.size)
 refine hKc _ _ (To.no rfl (To.skip (To.seq (To.code fun Kc hKc => ?_))))
 have hu114 := Try.underlying114
 unfold c40_22
 go_wp2
 have hBb := heap_alloc_new V3 (.cells (bestV none FV87) 114)
 have hbB : Below W.heap.size W (V3.alloc (.cells (bestV none FV87) 114)) := hbV3.alloc hbV3.size _
 have hWB : W.heap.size ≤ V3.heap.size := hbV3.size
 change Kc _ (V3.alloc (.cells (bestV none FV87) 114))
 generalize V3.alloc (.cells (bestV none FV87) 114) = V4 at hBb hbB ⊢
 generalize V3.heap.size = B at hBb hWB ⊢
 have hgT4 := (hbB.block gT (blk_lt hgT)).trans hgT
 have q0 := blk_cell hgT4 0
 have q1 := blk_cell hgT4 1
 have C88 : Hid _ := calls88 (hT1.below hbB) steps
 refine hKc _ _ (To.seq (To.code fun Kc hKc => ?_))
 unfold c40_23
 go_wp2_with (go_at_call 88; refine Calls.mono C88.out ?_; rintro e V5 ⟨_, rfl, gO, rv, rfl, hrl, hrows, hgO, hle, hb6⟩; dsimp only)
 have hN := heap_alloc_new V5 (.cells #[.slice (some ⟨gO, 0, none⟩) nh nh] 125)
 have hb7 : Below V4.heap.size V4 (V5.alloc (.cells #[.slice (some ⟨gO, 0, none⟩) nh nh] 125)) := hb6.alloc hb6.size _
 have hb75 : Below V5.heap.size V5 (V5.alloc (.cells #[.slice (some ⟨gO, 0, none⟩) nh nh] 125)) := (Below.refl _ _).alloc (Nat.le_refl _) _
 have hlen88 : V4.heap.size ≤ V5.heap.size := hb6.size
 change Kc _ (V5.alloc (.cells #[.slice (some ⟨gO, 0, none⟩) nh nh] 125))
 generalize V5.alloc (.cells #[.slice (some ⟨gO, 0, none⟩) nh nh] 125) = V6 at hN hb7 hb75 ⊢
 have hbV6 : Below W.heap.size W V6 := hbB.trans (hb7.mono hbB.size)
 have hgT6 := (hbV6.block gT (blk_lt hgT)).trans hgT
 have q1 := blk_cell hgT6 1
 have hnear : Near V4.heap.size V6 V5.heap.size gO nh rv hd steps := ⟨hN, (hb75.block gO (blk_lt hgO)).trans hgO, fun j hj => by
   obtain ⟨v, h1, h2⟩ := hrows j hj
   exact ⟨v, h1, h2.kp (Kp.of_below hb75)⟩, fun j hj => reachRow_len hd nh steps j⟩
 have hBV6 := (hb7.block B (blk_lt hBb)).trans hBb
 have hBlt : B < V4.heap.size := blk_lt hBb
 have HNR : Hid _ := hnear
 clear hnear hrows C88 hN C1 hb6
 refine hKc _ _ (To.seq (To.label (To.seq (To.seq (To.code fun Kc hKc => ?_)))))
 unfold c40_24
 go_wp2
 have hpow : 2 ^ nh ≤ 64 := Nat.le_trans (Nat.pow_le_pow_right (by decide) hmh) (by decide)
 have hpw : wrap64 (2 ^ nh) = ((2 ^ nh : Nat) : Int) := by
  have e : (2 : Int) ^ nh = ((2 ^ nh : Nat) : Int) := by simp
  rw [e]
  generalize 2 ^ nh = N at hpow
  unfold wrap64
  omega
 rw [hpw]
 refine hKc _ _ (To.block (To.loop ?_))
 refine out40 (w := W) hT1 gT hgT Ap cp pr hpr1 hpv Aw nw cw wl hw1 hwv steps (.int .i64 steps) B V4.heap.size V5.heap.size gO rv hWB hBlt (by omega) (by omega) ?_ (2 ^ nh) 0 (by omega) _ _ _ _ _ _ _ _ _ _ _ _ _ _ _ _ _ _ _ _ _ _ _ _ _ _ _ _ _ _ _ _ _ _ _ _ _ _ _ _ _ _ _ _ _ _ _ _ _ _ _ _ _ _ _ _ _ _ _ _ _ _ _ _ _ _ _ _ _ _ _ _ _ _ _ _ _ _ _ _ _ _ _ _ _ _ _ _ _ _ _ _ _ _ _ _ _ _ _ _ _ _ _ _ _ _ _ _ _ _ _ _ _ _ _ _ _ _ _ _ _ _ _ _ _ V6 none hbV6 HNR.out hBV6 rfl
 intro t0 t1 t2 t3 t4 t5 t6 t7 t8 t9 jC jA jB jD zC yI xR qZ zI yT zD qI zE zB xG yL jG jQ qD qH zF qE yV xA qV zK zM jU qY jE xJ qC xC yY qK yX qL yF zR jW xI xD qG jT xH xK yR zG xL zN zQ qQ jZ xY jR qM yS xF qU yU yO xM qJ yC yN zL xU qN xP jX qS qW zH xZ yE zO qF xV xS yJ jJ xE xQ zJ xX xT yZ yD jM yG qX jK qB jP jL yP yM jF xB zA jY qA jH qR jI qP zP yK yH xW qT xO xN jN jO qO yA yQ yB yW jS jV V o hbV hBV hH
 rw [hbest] at hH
 obtain ⟨g, rfl, hg⟩ := hH
 have e3 := blk_cell hBV 3
 refine To.seq (To.seq (To.code fun Kc hKc => ?_))
 unfold c40_41
 go_wp2
 refine hKc _ _ (To.no (by rfl) (To.skip (To.seq (To.code fun Kc hKc => ?_))))
 have f0 : ∀ W', Below V.heap.size V W' → W'.cell? ⟨B, 0, none⟩ = some (.slice (some ⟨g, 0, none⟩) h.cards.length h.cards.length) := fun W' hh => (blk_cell ((hh.block _ (blk_lt hBV)).trans hBV) 0)
 have f2 : ∀ W', Below V.heap.size V W' → W'.cell? ⟨B, 2, none⟩ = some (.int .i64 h.price) := fun W' hh => (blk_cell ((hh.block _ (blk_lt hBV)).trans hBV) 2)
 have hrefl : Below V.heap.size V V := Below.refl _ _
 have hfin : ∀ W', Below V.heap.size V W' → Below w.heap.size w W' ∧ W'.heap[g]? = some (.cells (nums .i64 h.cards).toArray 3 (0, 0)) := fun W' hw' => by
  have h0 : Below w.heap.size w W := hgs ▸ hb
  have h1 : Below w.heap.size w V := h0.trans (hbV.mono h0.size)
  exact ⟨h1.trans (hw'.mono h1.size), (hw'.block g (blk_lt hg)).trans hg⟩
 have HF : Hid _ := hfin
 clear hfin hbV hBV hBV6 HNR hbV6 hgT6 q1 hb7 hb75 hBb hbB hgT4 hgT hb hT1 hpr1 hw1 hgs hT hpr hw hgT2 hgTV1 hbV1 hbV2 hbV3 hb2 hb3 hb4 hb5 hbest e3 hgO
 unfold c40_43
 dsimp only
 go_region_held3 (fun w' => Below V.heap.size V w') (first | exact Below.drew (by assumption) | assumption) (fail)
 have hS : Below V.heap.size V V.drew := Below.drew hrefl
 obtain ⟨r1, r2⟩ := HF.out _ hS
 exact hKc _ _ (To.ret Try.func40 rfl (results_tmp3 rfl _ _ _) ⟨r1, g, rfl, r2⟩)
end
noncomputable def c70_0 : Array Oper := (fun {c} (_ : rg Try.f70 0 = some c) => c) rfl
noncomputable def c70_1 : Array Oper := (fun {c} (_ : rg Try.f70 1 = some c) => c) rfl
noncomputable def c70_2 : Array Oper := (fun {c} (_ : rg Try.f70 2 = some c) => c) rfl
noncomputable def c70_3 : Array Oper := (fun {c} (_ : rg Try.f70 3 = some c) => c) rfl
noncomputable def c70_4 : Array Oper := (fun {c} (_ : rg Try.f70 4 = some c) => c) rfl
noncomputable def c70_5 : Array Oper := (fun {c} (_ : rg Try.f70 5 = some c) => c) rfl
noncomputable def c70_6 : Array Oper := (fun {c} (_ : rg Try.f70 6 = some c) => c) rfl
noncomputable def c70_7 : Array Oper := (fun {c} (_ : rg Try.f70 7 = some c) => c) rfl
noncomputable def b70 : Code := (.seq (.region 0 c70_0 false) (.seq (.block 0 (.seq (.region 1 c70_1 false) (.cond (Operand.tmp 5) (.seq (.region 2 c70_2 false) Code.ret) (.seq (.region 3 c70_3 false) (.cond (Operand.tmp 14) (.seq (.region 4 c70_4 false) Code.ret) (.seq (.region 5 c70_5 false) (.cond (Operand.tmp 19) (.seq (.region 6 c70_6 false) Code.ret) Code.skip))))))) (.seq (.region 7 c70_7 false) Code.ret)))
theorem body70 : Try.f70.body = some b70 := by kernel_rfl
noncomputable def c69_0 : Array Oper := (fun {c} (_ : rg Try.f69 0 = some c) => c) rfl
noncomputable def c69_1 : Array Oper := (fun {c} (_ : rg Try.f69 1 = some c) => c) rfl
noncomputable def c69_2 : Array Oper := (fun {c} (_ : rg Try.f69 2 = some c) => c) rfl
noncomputable def c69_3 : Array Oper := (fun {c} (_ : rg Try.f69 3 = some c) => c) rfl
noncomputable def c69_4 : Array Oper := (fun {c} (_ : rg Try.f69 4 = some c) => c) rfl
noncomputable def c69_5 : Array Oper := (fun {c} (_ : rg Try.f69 5 = some c) => c) rfl
noncomputable def c69_6 : Array Oper := (fun {c} (_ : rg Try.f69 6 = some c) => c) rfl
noncomputable def c69_7 : Array Oper := (fun {c} (_ : rg Try.f69 7 = some c) => c) rfl
noncomputable def l69_0 : Code := (.seq (.region 3 c69_3 false) (.seq (.cond (Operand.tmp 24) Code.skip (Code.exit 0)) (.seq (.block 1 (.seq (.region 4 c69_4 false) (.seq (.region 5 c69_5 false) (.cond (Operand.tmp 29) (.seq (.region 6 c69_6 false) Code.ret) Code.skip)))) (.region 7 c69_7 false))))
noncomputable def c69_8 : Array Oper := (fun {c} (_ : rg Try.f69 8 = some c) => c) rfl
noncomputable def c69_9 : Array Oper := (fun {c} (_ : rg Try.f69 9 = some c) => c) rfl
noncomputable def c69_10 : Array Oper := (fun {c} (_ : rg Try.f69 10 = some c) => c) rfl
noncomputable def c69_11 : Array Oper := (fun {c} (_ : rg Try.f69 11 = some c) => c) rfl
noncomputable def c69_12 : Array Oper := (fun {c} (_ : rg Try.f69 12 = some c) => c) rfl
noncomputable def c69_13 : Array Oper := (fun {c} (_ : rg Try.f69 13 = some c) => c) rfl
noncomputable def c69_14 : Array Oper := (fun {c} (_ : rg Try.f69 14 = some c) => c) rfl
noncomputable def c69_15 : Array Oper := (fun {c} (_ : rg Try.f69 15 = some c) => c) rfl
noncomputable def c69_16 : Array Oper := (fun {c} (_ : rg Try.f69 16 = some c) => c) rfl
noncomputable def c69_17 : Array Oper := (fun {c} (_ : rg Try.f69 17 = some c) => c) rfl
noncomputable def c69_18 : Array Oper := (fun {c} (_ : rg Try.f69 18 = some c) => c) rfl
noncomputable def c69_19 : Array Oper := (fun {c} (_ : rg Try.f69 19 = some c) => c) rfl
noncomputable def l69_1 : Code := (.seq (.region 15 c69_15 false) (.seq (.cond (Operand.tmp 56) Code.skip (Code.exit 3)) (.seq (.block 4 (.seq (.region 16 c69_16 false) (.seq (.region 17 c69_17 false) (.cond (Operand.tmp 61) (.seq (.region 18 c69_18 false) Code.ret) Code.skip)))) (.region 19 c69_19 false))))
noncomputable def c69_20 : Array Oper := (fun {c} (_ : rg Try.f69 20 = some c) => c) rfl
noncomputable def c69_21 : Array Oper := (fun {c} (_ : rg Try.f69 21 = some c) => c) rfl
noncomputable def c69_22 : Array Oper := (fun {c} (_ : rg Try.f69 22 = some c) => c) rfl
noncomputable def c69_23 : Array Oper := (fun {c} (_ : rg Try.f69 23 = some c) => c) rfl
noncomputable def c69_24 : Array Oper := (fun {c} (_ : rg Try.f69 24 = some c) => c) rfl
noncomputable def c69_25 : Array Oper := (fun {c} (_ : rg Try.f69 25 = some c) => c) rfl
noncomputable def c69_26 : Array Oper := (fun {c} (_ : rg Try.f69 26 = some c) => c) rfl
noncomputable def c69_27 : Array Oper := (fun {c} (_ : rg Try.f69 27 = some c) => c) rfl
noncomputable def c69_28 : Array Oper := (fun {c} (_ : rg Try.f69 28 = some c) => c) rfl
noncomputable def l69_2 : Code := (.seq (.region 23 c69_23 false) (.seq (.cond (Operand.tmp 71) Code.skip (Code.exit 5)) (.seq (.block 6 (.seq (.region 24 c69_24 false) (.seq (.region 25 c69_25 false) (.seq (.region 26 c69_26 false) (.cond (Operand.tmp 78) (.seq (.region 27 c69_27 false) Code.ret) Code.skip))))) (.region 28 c69_28 false))))
noncomputable def c69_29 : Array Oper := (fun {c} (_ : rg Try.f69 29 = some c) => c) rfl
noncomputable def b69 : Code := (.seq (.region 0 c69_0 false) (.seq (.region 1 c69_1 false) (.seq (.seq (.region 2 c69_2 false) (.block 0 (.loop l69_0))) (.seq (.block 2 (.seq (.region 8 c69_8 false) (.cond (Operand.tmp 31) (.seq (.region 9 c69_9 false) Code.ret) (.seq (.region 10 c69_10 false) (.cond (Operand.tmp 42) (.seq (.region 11 c69_11 false) Code.ret) (.seq (.region 12 c69_12 false) (.cond (Operand.tmp 47) (.seq (.region 13 c69_13 false) Code.ret) Code.skip))))))) (.seq (.seq (.region 14 c69_14 false) (.block 3 (.loop l69_1))) (.seq (.seq (.region 20 c69_20 false) (.cond (Operand.tmp 66) (.seq (.region 21 c69_21 false) Code.ret) Code.skip)) (.seq (.seq (.region 22 c69_22 false) (.block 5 (.loop l69_2))) (.seq (.region 29 c69_29 false) Code.ret))))))))
theorem body69 : Try.f69.body = some b69 := by kernel_rfl
theorem btw {a b c : Int} {t : Bool} (h : decide (b ≤ a ∧ a ≤ c) = t) (w : World) : Calls Try.prog 61 #[.int .i64 a, .int .i64 b, .int .i64 c] w fun e w' => e = .returned (.bool t) ∧ Below w.heap.size w w' :=
 (bold_between.calls a b c t w (by
  subst h
  unfold bold_between.f
  by_cases h : b ≤ a <;> simp [h])).mono fun e w' h => ⟨h.1, h.2.below⟩
def adErr (ns : Int) (x : S39) : Int :=
 if ¬ (0 ≤ x.f0 ∧ x.f0 ≤ ns - 1) then 3 else if ¬ (1 ≤ x.f1 ∧ x.f1 ≤ 3) then 8 else if ¬ (1 ≤ x.f2 ∧ x.f2 ≤ 6) ∨ (x.f1 = 1 ∧ x.f2 ≠ 1) then 1 else 0
def saleErr (p b l c off grp : Int) (streets : List Int) (adv : List S39) : Int :=
 if ¬ ([p, b, l, c].all fun n => decide (0 ≤ n ∧ n ≤ 999)) = true then 1 else if ¬ ((0 ≤ off ∧ off ≤ 50) ∧ (1 ≤ grp ∧ grp ≤ 5)) then 1
 else if streets.length = 0 then 7 else if 5 < streets.length then 6 else if ¬ (streets.all fun n => decide (0 ≤ n ∧ n ≤ 9)) = true then 1
 else if 8 < adv.length then 6 else ((adv.map (adErr streets.length)).find? fun e => decide (e ≠ 0)).getD 0
section
variable {w : World} {p b l c off grp : Int} {As Aa : Option Addr} {ns ca cs0 na : Nat} {streets : List Int} {adv : List S39}
set_option maxHeartbeats 4000000 in
theorem calls70 (x : S39) (hn : ns ≤ 9223372036854775807) : Calls Try.prog 70 #[.agg (sal p b l c off grp As ns cs0 Aa na ca), .agg #[.int .i64 x.f0, .int .i64 x.f1, .int .i64 x.f2]] w fun e w' => ∃ v, e = .returned v ∧ v = .int .i64 (adErr ns x) ∧ Below w.heap.size w w' := by
 refine calls_of_to (tmps := #[.agg (sal p b l c off grp As ns cs0 Aa na ca), .agg #[.int .i64 x.f0, .int .i64 x.f1, .int .i64 x.f2], undef, undef, undef, undef, undef, undef, undef, undef, undef, undef, undef, undef, undef, undef, undef, undef, undef, undef, undef, undef, undef, undef, undef, undef, undef, undef, undef, undef, undef, undef, undef, undef]) Try.func70 body70 (by kernel_rfl) fun cs => ?_
 obtain ⟨f0, f1, f2⟩ := x
 dsimp only
 have r1 : ¬ (0 ≤ f0 ∧ f0 ≤ (ns : Int) - 1) → adErr ns ⟨f0, f1, f2⟩ = 3 := fun h => if_pos h
 have r2 : (0 ≤ f0 ∧ f0 ≤ (ns : Int) - 1) → ¬ (1 ≤ f1 ∧ f1 ≤ 3) → adErr ns ⟨f0, f1, f2⟩ = 8 := fun h h2 => by unfold adErr; rw [if_neg (fun k => k h), if_pos h2]
 have r3 : (0 ≤ f0 ∧ f0 ≤ (ns : Int) - 1) → (1 ≤ f1 ∧ f1 ≤ 3) → adErr ns ⟨f0, f1, f2⟩ = if ¬ (1 ≤ f2 ∧ f2 ≤ 6) ∨ (f1 = 1 ∧ f2 ≠ 1) then 1 else 0 := fun h h2 => by unfold adErr; rw [if_neg (fun k => k h), if_neg (fun k => k h2)]
 generalize adErr (ns : Int) ⟨f0, f1, f2⟩ = r at r1 r2 r3
 have hw1 : IntKind.i64.wrap ((ns : Int) - 1) = (ns : Int) - 1 := by rw [IntKind.wrap_i64]; omega
 unfold b70
 refine To.seq (To.code fun Kc hKc => ?_)
 unfold c70_0
 go_wp2
 have hbox := heap_alloc_new w (.cells (sal p b l c off grp As ns cs0 Aa na ca) 36)
 have hbox := (Below.heap_alloc (w.alloc (.cells (sal p b l c off grp As ns cs0 Aa na ca) 36)) (.cells #[.int .i64 f0, .int .i64 f1, .int .i64 f2] 39) w.heap.size (by simp)).trans hbox
 have hbox2 := heap_alloc_new (w.alloc (.cells (sal p b l c off grp As ns cs0 Aa na ca) 36)) (.cells #[.int .i64 f0, .int .i64 f1, .int .i64 f2] 39)
 have hbw : Below w.heap.size w ((w.alloc (.cells (sal p b l c off grp As ns cs0 Aa na ca) 36)).alloc (.cells #[.int .i64 f0, .int .i64 f1, .int .i64 f2] 39)) := ((Below.refl _ _).alloc (Nat.le_refl _) _).alloc (by simp) _
 have hs : (w.alloc (.cells (sal p b l c off grp As ns cs0 Aa na ca) 36)).heap.size = w.heap.size + 1 := by simp
 rw [hs] at hbox2
 generalize ((w.alloc (.cells (sal p b l c off grp As ns cs0 Aa na ca) 36)).alloc (.cells #[.int .i64 f0, .int .i64 f1, .int .i64 f2] 39)) = W at hbox hbox2 hbw ⊢
 have hgw : w.heap.size ≤ W.heap.size := hbw.size
 have e6 := blk_cell hbox 6
 have d0 := blk_cell hbox2 0
 have d1 := blk_cell hbox2 1
 have d2 := blk_cell hbox2 2
 refine hKc _ _ (To.seq (To.block (To.seq (To.code fun Kc hKc => ?_))))
 by_cases h1 : 0 ≤ f0 ∧ f0 ≤ (ns : Int) - 1
 case neg =>
  obtain rfl := r1 h1
  have C1 : Hid _ := btw (decide_eq_false h1) W
  unfold c70_1
  go_wp2_with (go_at_call 61; refine Calls.mono C1.out ?_; rintro e W1 ⟨rfl, hb1⟩; dsimp only)
  refine hKc _ _ (To.yes rfl (To.seq (To.code fun Kc hKc => ?_)))
  unfold c70_2
  go_wp2
  exact hKc _ _ (To.ret Try.func70 rfl (results_tmp rfl _ _ _) ⟨rfl, hbw.trans (hb1.mono hgw)⟩)
 have C1 : Hid _ := btw (decide_eq_true h1) W
 unfold c70_1
 go_wp2_with (go_at_call 61; refine Calls.mono C1.out ?_; rintro e W1 ⟨rfl, hb1⟩; dsimp only)
 replace hbox2 := (hb1.block _ (blk_lt hbox2)).trans hbox2
 replace hbw := hbw.trans (hb1.mono hgw)
 replace hgw := Nat.le_trans hgw hb1.size
 clear hb1 C1 e6 d0 d1 d2 hbox
 have d1 := blk_cell hbox2 1
 refine hKc _ _ (To.no rfl (To.seq (To.code fun Kc hKc => ?_)))
 by_cases h2 : 1 ≤ f1 ∧ f1 ≤ 3
 case neg =>
  obtain rfl := r2 h1 h2
  have C1 : Hid _ := btw (decide_eq_false h2) W1
  unfold c70_3
  go_wp2_with (go_at_call 61; refine Calls.mono C1.out ?_; rintro e W2 ⟨rfl, hb1⟩; dsimp only)
  refine hKc _ _ (To.yes rfl (To.seq (To.code fun Kc hKc => ?_)))
  unfold c70_4
  go_wp2
  exact hKc _ _ (To.ret Try.func70 rfl (results_tmp rfl _ _ _) ⟨rfl, hbw.trans (hb1.mono hgw)⟩)
 replace r3 := r3 h1 h2
 have C1 : Hid _ := btw (decide_eq_true h2) W1
 unfold c70_3
 go_wp2_with (go_at_call 61; refine Calls.mono C1.out ?_; rintro e W2 ⟨rfl, hb1⟩; dsimp only)
 replace hbox2 := (hb1.block _ (blk_lt hbox2)).trans hbox2
 replace hbw := hbw.trans (hb1.mono hgw)
 replace hgw := Nat.le_trans hgw hb1.size
 clear hb1 C1 d1
 have d2 := blk_cell hbox2 2
 refine hKc _ _ (To.no rfl (To.seq (To.code fun Kc hKc => ?_)))
 have fin : ∀ (t : Bool) t0 t1 t2 t3 t4 t5 t6 t7 t8 t9 jT jE jN jC jJ jM jR jD jH jA xK xM xL jI jK jQ jB jG jO jS jL jP jF V, Below w.heap.size w V → r = (if t then 1 else 0) → To Try.prog cs (Out Try.prog 70 fun v w' => v = .int .i64 r ∧ Below w.heap.size w w') ((baseN 70).at ({ tmps := #[t0, t1, t2, t3, t4, t5, t6, t7, t8, t9, jT, jE, jN, jC, jJ, jM, jR, jD, jH, .bool t, jA, xK, xM, xL, jI, jK, jQ, jB, jG, jO, jS, jL, jP, jF], defers := [] } : Act) [.code (.cond (.tmp 19) (.seq (.region 6 c70_6 false) Code.ret) Code.skip), .inBlock 0, .code (.seq (.region 7 c70_7 false) Code.ret)]) V := by
  intro t t0 t1 t2 t3 t4 t5 t6 t7 t8 t9 jT jE jN jC jJ jM jR jD jH jA xK xM xL jI jK jQ jB jG jO jS jL jP jF V hV ht
  subst ht
  cases t with
  | true =>
   refine To.yes rfl (To.seq (To.code fun Kc hKc => ?_))
   unfold c70_6
   go_wp2
   exact hKc _ _ (To.ret Try.func70 rfl (results_tmp rfl _ _ _) ⟨rfl, hV⟩)
  | false =>
   refine To.no rfl (To.skip (To.inBlock (To.seq (To.code fun Kc hKc => ?_))))
   unfold c70_7
   go_wp2
   exact hKc _ _ (To.ret Try.func70 rfl (results_tmp rfl _ _ _) ⟨rfl, hV⟩)
 have HF : Hid _ := fin
 clear fin
 by_cases h3 : 1 ≤ f2 ∧ f2 ≤ 6
 case neg =>
  have C1 : Hid _ := btw (decide_eq_false h3) W2
  unfold c70_5
  go_wp2_with (go_at_call 61; refine Calls.mono C1.out ?_; rintro e W3 ⟨rfl, hb1⟩; dsimp only)
  exact hKc _ _ (HF.out true _ _ _ _ _ _ _ _ _ _ _ _ _ _ _ _ _ _ _ _ _ _ _ _ _ _ _ _ _ _ _ _ _ W3 (hbw.trans (hb1.mono hgw)) (by rw [r3, if_pos (.inl h3)]; rfl))
 have C1 : Hid _ := btw (decide_eq_true h3) W2
 by_cases h4 : f1 = 1
 case neg =>
  have k4 : decide (f1 = 1) = false := decide_eq_false h4
  have k4' : (f1 == 1) = false := by simp [h4]
  unfold c70_5
  go_wp2_with (go_at_call 61; refine Calls.mono C1.out ?_; rintro e W3 ⟨rfl, hb1⟩; have d1' := blk_cell ((hb1.block _ (blk_lt hbox2)).trans hbox2) 1; dsimp only)
  exact hKc _ _ (HF.out false _ _ _ _ _ _ _ _ _ _ _ _ _ _ _ _ _ _ _ _ _ _ _ _ _ _ _ _ _ _ _ _ _ W3 (hbw.trans (hb1.mono hgw)) (by rw [r3, if_neg (by omega)]; rfl))
 subst h4
 by_cases h5 : f2 = 1
 ·subst h5
  unfold c70_5
  go_wp2_with (go_at_call 61; refine Calls.mono C1.out ?_; rintro e W3 ⟨rfl, hb1⟩; have d1' := blk_cell ((hb1.block _ (blk_lt hbox2)).trans hbox2) 1; have d2' := blk_cell ((hb1.block _ (blk_lt hbox2)).trans hbox2) 2; dsimp only)
  exact hKc _ _ (HF.out false _ _ _ _ _ _ _ _ _ _ _ _ _ _ _ _ _ _ _ _ _ _ _ _ _ _ _ _ _ _ _ _ _ W3 (hbw.trans (hb1.mono hgw)) (by rw [r3, if_neg (by omega)]; rfl))
 ·have k5 : decide (f2 = 1) = false := decide_eq_false h5
  have k5' : (f2 == 1) = false := by simp [h5]
  have k5'' : (f2 != 1) = true := by simp [h5]
  unfold c70_5
  go_wp2_with (go_at_call 61; refine Calls.mono C1.out ?_; rintro e W3 ⟨rfl, hb1⟩; have d1' := blk_cell ((hb1.block _ (blk_lt hbox2)).trans hbox2) 1; have d2' := blk_cell ((hb1.block _ (blk_lt hbox2)).trans hbox2) 2; dsimp only)
  exact hKc _ _ (HF.out true _ _ _ _ _ _ _ _ _ _ _ _ _ _ _ _ _ _ _ _ _ _ _ _ _ _ _ _ _ _ _ _ _ W3 (hbw.trans (hb1.mono hgw)) (by rw [r3]; simp [h5]))
theorem loop69_0 {cs : List Frame} {R : Value → World → Prop} {K : List Item} (g : Nat) (q : List Int) (hq : q.length = 4) (v1 v3 : Value) (hbad : (q.all fun n => decide (0 ≤ n ∧ n ≤ 999)) = false → ∀ V, Below w.heap.size w V → R (.int .i64 1) V)
  (hend : (q.all fun n => decide (0 ≤ n ∧ n ≤ 999)) = true → ∀ t0 t2 t4 t5 t6 t7 t8 t9 jT jE jN jC jJ jM jR jD jH qY jA xK xM xL jI jK jQ jB jG jO jS jL jP jF qQ qK qZ xD qR qN xH xC xB qS qO jW qI jX qT qL qU xE qV xS xP xR jV jY qW jZ xF qA qG xA qM qJ qC qB xQ xO xN xJ qE jU qP xI xG qH qD qF qX V, Below w.heap.size w V → To Try.prog cs (Out Try.prog 69 R) ((baseN 69).at ({ tmps := #[t0, v1, t2, v3, t4, t5, t6, t7, t8, t9, jT, jE, jN, jC, jJ, jM, jR, jD, jH, qY, jA, xK, xM, xL, jI, jK, jQ, jB, jG, jO, jS, jL, jP, jF, qQ, qK, qZ, xD, qR, qN, xH, xC, xB, qS, qO, jW, qI, jX, qT, qL, qU, xE, qV, xS, xP, xR, jV, jY, qW, jZ, xF, qA, qG, xA, qM, qJ, qC, qB, xQ, xO, xN, xJ, qE, jU, qP, xI, xG, qH, qD, qF, qX], defers := [] } : Act) K) V) (hg : w.heap[g]? = some (.cells (nums .i64 q).toArray 3 (0, 0))) :
  ∀ (r i : Nat), i + r = 4 → ((q.take i).all fun n => decide (0 ≤ n ∧ n ≤ 999)) = true → ∀ t0 t2 t4 t5 t6 t7 t8 t9 jT jE jN jC jJ jM jR jD jH qY jA jI jK jQ jB jG jO jS jL jP jF qQ qK qZ xD qR qN xH xC xB qS qO jW qI jX qT qL qU xE qV xS xP xR jV jY qW jZ xF qA qG xA qM qJ qC qB xQ xO xN xJ qE jU qP xI xG qH qD qF qX V, Below w.heap.size w V →
   To Try.prog cs (Out Try.prog 69 R) ((baseN 69).at ({ tmps := #[t0, v1, t2, v3, t4, t5, t6, t7, t8, t9, jT, jE, jN, jC, jJ, jM, jR, jD, jH, qY, jA, .slice (some ⟨g, 0, none⟩) 4 4, .int .i64 4, .int .i64 (i : Int), jI, jK, jQ, jB, jG, jO, jS, jL, jP, jF, qQ, qK, qZ, xD, qR, qN, xH, xC, xB, qS, qO, jW, qI, jX, qT, qL, qU, xE, qV, xS, xP, xR, jV, jY, qW, jZ, xF, qA, qG, xA, qM, qJ, qC, qB, xQ, xO, xN, xJ, qE, jU, qP, xI, xG, qH, qD, qF, qX], defers := [] } : Act) (.code l69_0 :: .inLoop l69_0 :: .inBlock 0 :: K)) V := by
 intro r
 dsimp only at hend ⊢
 induction r with
 | zero =>
  intro i hi ha t0 t2 t4 t5 t6 t7 t8 t9 jT jE jN jC jJ jM jR jD jH qY jA jI jK jQ jB jG jO jS jL jP jF qQ qK qZ xD qR qN xH xC xB qS qO jW qI jX qT qL qU xE qV xS xP xR jV jY qW jZ xF qA qG xA qM qJ qC qB xQ xO xN xJ qE jU qP xI xG qH qD qF qX V hB
  obtain rfl : i = 4 := by omega
  rw [List.take_of_length_le (by omega)] at ha
  have HE : Hid _ := hend ha
  clear hend ha hbad
  refine To.seq (To.code fun Kc hKc => ?_)
  unfold c69_3
  go_wp2
  exact hKc _ _ (To.seq (To.no rfl (To.exit rfl (HE.out _ _ _ _ _ _ _ _ _ _ _ _ _ _ _ _ _ _ _ _ _ _ _ _ _ _ _ _ _ _ _ _ _ _ _ _ _ _ _ _ _ _ _ _ _ _ _ _ _ _ _ _ _ _ _ _ _ _ _ _ _ _ _ _ _ _ _ _ _ _ _ _ _ _ _ _ _ _ _ V hB))))
 | succ r ih =>
  intro i hi ha t0 t2 t4 t5 t6 t7 t8 t9 jT jE jN jC jJ jM jR jD jH qY jA jI jK jQ jB jG jO jS jL jP jF qQ qK qZ xD qR qN xH xC xB qS qO jW qI jX qT qL qU xE qV xS xP xR jV jY qW jZ xF qA qG xA qM qJ qC qB xQ xO xN xJ qE jU qP xI xG qH qD qF qX V hB
  try dsimp only at ih
  replace ih : Hid _ := ih
  have HE : Hid _ := hend
  have HB : Hid _ := hbad
  clear hend hbad
  have hlt : (i : Int) < 4 := by omega
  have hil : i < q.length := by omega
  have hc : V.cell? ⟨g, i, none⟩ = some (.int .i64 q[i]) := by
   rw [blk_cell ((hB.block g (blk_lt hg)).trans hg)]
   simp [nums, hil]
  have hall : ((q.take (i + 1)).all fun n => decide (0 ≤ n ∧ n ≤ 999)) = decide (0 ≤ q[i] ∧ q[i] ≤ 999) := by
   rw [List.take_add_one, List.all_append, ha, List.getElem?_eq_getElem hil]
   simp
  have hany : decide (0 ≤ q[i] ∧ q[i] ≤ 999) = false → (q.all fun n => decide (0 ≤ n ∧ n ≤ 999)) = false := fun h => List.all_eq_false.2 ⟨q[i], List.getElem_mem hil, by rw [h]; decide⟩
  generalize q[i] = x at hc hall hany
  have HA : Hid _ := ha
  clear ha
  refine To.seq (To.code fun Kc hKc => ?_)
  unfold c69_3
  go_wp2
  refine hKc _ _ (To.seq (To.yes rfl (To.skip (To.seq (To.block (To.seq (To.code fun Kc hKc => ?_)))))))
  unfold c69_4
  go_wp2
  refine hKc _ _ (To.seq (To.code fun Kc hKc => ?_))
  cases ht : decide (0 ≤ x ∧ x ≤ 999) with
  | false =>
   have C1 : Hid _ := btw ht V
   unfold c69_5
   go_wp2_with (go_at_call 61; refine Calls.mono C1.out ?_; rintro e V2 ⟨rfl, hb2⟩; dsimp only)
   refine hKc _ _ (To.yes rfl (To.seq (To.code fun Kc hKc => ?_)))
   unfold c69_6
   go_wp2
   exact hKc _ _ (To.ret Try.func69 rfl (results_tmp (t := 2) rfl _ _ _) (HB.out (hany ht) _ (hB.trans (hb2.mono hB.size))))
  | true =>
   rw [ht] at hall
   have C1 : Hid _ := btw ht V
   unfold c69_5
   go_wp2_with (go_at_call 61; refine Calls.mono C1.out ?_; rintro e V2 ⟨rfl, hb2⟩; dsimp only)
   refine hKc _ _ (To.no rfl (To.skip (To.inBlock (To.code fun Kc hKc => ?_))))
   have hw1 : IntKind.i64.wrap ((i : Int) + 1) = (i : Int) + 1 := by rw [IntKind.wrap_i64]; omega
   unfold c69_7
   go_wp2
   refine hKc _ _ (To.inLoop ?_)
   rw [show ((i : Int) + 1) = ((i + 1 : Nat) : Int) by omega]
   exact ih.out (i + 1) (by omega) hall _ _ _ _ _ _ _ _ _ _ _ _ _ _ _ _ _ _ _ _ _ _ _ _ _ _ _ _ _ _ _ _ _ _ _ _ _ _ _ _ _ _ _ _ _ _ _ _ _ _ _ _ _ _ _ _ _ _ _ _ _ _ _ _ _ _ _ _ _ _ _ _ _ _ _ _ V2 (hB.trans (hb2.mono hB.size))
theorem loop69_1 {cs : List Frame} {R : Value → World → Prop} {K : List Item} (hst : Kd.C (Kd.int .i64) w As ns streets) (v1 v3 : Value) (hbad : (streets.all fun n => decide (0 ≤ n ∧ n ≤ 9)) = false → ∀ V, Below w.heap.size w V → R (.int .i64 1) V)
  (hend : (streets.all fun n => decide (0 ≤ n ∧ n ≤ 9)) = true → ∀ t0 t2 t4 t5 t6 t7 t8 t9 jT jE jN jC jJ jM jR jD jH qY jA xK xM xL jI jK jQ jB jG jO jS jL jP jF qQ qK qZ xD qR qN xH xC xB qS qO jW qI jX qT qL qU xE qV xS xP xR jV jY qW jZ xF qA qG xA qM qJ qC qB xQ xO xN xJ qE jU qP xI xG qH qD qF qX V, Below w.heap.size w V → To Try.prog cs (Out Try.prog 69 R) ((baseN 69).at ({ tmps := #[t0, v1, t2, v3, t4, t5, t6, t7, t8, t9, jT, jE, jN, jC, jJ, jM, jR, jD, jH, qY, jA, xK, xM, xL, jI, jK, jQ, jB, jG, jO, jS, jL, jP, jF, qQ, qK, qZ, xD, qR, qN, xH, xC, xB, qS, qO, jW, qI, jX, qT, qL, qU, xE, qV, xS, xP, xR, jV, jY, qW, jZ, xF, qA, qG, xA, qM, qJ, qC, qB, xQ, xO, xN, xJ, qE, jU, qP, xI, xG, qH, qD, qF, qX], defers := [] } : Act) K) V) :
  ∀ (r i : Nat), i + r = ns → ((streets.take i).all fun n => decide (0 ≤ n ∧ n ≤ 9)) = true → ∀ t0 t2 t4 t5 t6 t7 t8 t9 jT jE jN jC jJ jM jR jD jH qY jA xK xM xL jI jK jQ jB jG jO jS jL jP jF qQ qK qZ xD qR qN xH xC xB qS qO jW qI jX qT qL qU xE qV jV jY qW jZ xF qA qG xA qM qJ qC qB xQ xO xN xJ qE jU qP xI xG qH qD qF qX V, Below w.heap.size w V →
   To Try.prog cs (Out Try.prog 69 R) ((baseN 69).at ({ tmps := #[t0, v1, t2, v3, t4, t5, t6, t7, t8, t9, jT, jE, jN, jC, jJ, jM, jR, jD, jH, qY, jA, xK, xM, xL, jI, jK, jQ, jB, jG, jO, jS, jL, jP, jF, qQ, qK, qZ, xD, qR, qN, xH, xC, xB, qS, qO, jW, qI, jX, qT, qL, qU, xE, qV, .slice As ns cs0, .int .i64 (ns : Int), .int .i64 (i : Int), jV, jY, qW, jZ, xF, qA, qG, xA, qM, qJ, qC, qB, xQ, xO, xN, xJ, qE, jU, qP, xI, xG, qH, qD, qF, qX], defers := [] } : Act) (.code l69_1 :: .inLoop l69_1 :: .inBlock 3 :: K)) V := by
 intro r
 have hlen : streets.length = ns := Kd.C_len hst
 have hmax := Kd.C_max hst
 dsimp only at hend ⊢
 induction r with
 | zero =>
  intro i hi ha t0 t2 t4 t5 t6 t7 t8 t9 jT jE jN jC jJ jM jR jD jH qY jA xK xM xL jI jK jQ jB jG jO jS jL jP jF qQ qK qZ xD qR qN xH xC xB qS qO jW qI jX qT qL qU xE qV jV jY qW jZ xF qA qG xA qM qJ qC qB xQ xO xN xJ qE jU qP xI xG qH qD qF qX V hB
  obtain rfl : i = ns := by omega
  rw [List.take_of_length_le (by omega)] at ha
  have HE : Hid _ := hend ha
  clear hend ha hbad
  have hlt : ¬ ((i : Int) < (i : Int)) := by omega
  refine To.seq (To.code fun Kc hKc => ?_)
  unfold c69_15
  go_wp2
  exact hKc _ _ (To.seq (To.no rfl (To.exit rfl (HE.out _ _ _ _ _ _ _ _ _ _ _ _ _ _ _ _ _ _ _ _ _ _ _ _ _ _ _ _ _ _ _ _ _ _ _ _ _ _ _ _ _ _ _ _ _ _ _ _ _ _ _ _ _ _ _ _ _ _ _ _ _ _ _ _ _ _ _ _ _ _ _ _ _ _ _ _ _ _ _ V hB))))
 | succ r ih =>
  intro i hi ha t0 t2 t4 t5 t6 t7 t8 t9 jT jE jN jC jJ jM jR jD jH qY jA xK xM xL jI jK jQ jB jG jO jS jL jP jF qQ qK qZ xD qR qN xH xC xB qS qO jW qI jX qT qL qU xE qV jV jY qW jZ xF qA qG xA qM qJ qC qB xQ xO xN xJ qE jU qP xI xG qH qD qF qX V hB
  try dsimp only at ih
  replace ih : Hid _ := ih
  have HE : Hid _ := hend
  have HB : Hid _ := hbad
  clear hend hbad
  have hlt : (i : Int) < (ns : Int) := by omega
  have hil : i < streets.length := by omega
  obtain ⟨ad, e, hc⟩ := Kd.at_int (Kd.C_below hst hB) (i : Int) (by omega) hlt
  have hrd : rd streets (i : Int) = streets[i] := by simp [rd, List.getD_eq_getElem?_getD, hil]
  rw [hrd] at hc
  simp only [Int.toNat_natCast] at hc
  have hall : ((streets.take (i + 1)).all fun n => decide (0 ≤ n ∧ n ≤ 9)) = decide (0 ≤ streets[i] ∧ streets[i] ≤ 9) := by
   rw [List.take_add_one, List.all_append, ha, List.getElem?_eq_getElem hil]
   simp
  have hany : decide (0 ≤ streets[i] ∧ streets[i] ≤ 9) = false → (streets.all fun n => decide (0 ≤ n ∧ n ≤ 9)) = false := fun h => List.all_eq_false.2 ⟨streets[i], List.getElem_mem hil, by rw [h]; decide⟩
  generalize streets[i] = x at hc hall hany
  clear hrd
  have HA : Hid _ := ha
  clear ha
  subst e
  refine To.seq (To.code fun Kc hKc => ?_)
  unfold c69_15
  go_wp2
  refine hKc _ _ (To.seq (To.yes rfl (To.skip (To.seq (To.block (To.seq (To.code fun Kc hKc => ?_)))))))
  unfold c69_16
  go_wp2
  refine hKc _ _ (To.seq (To.code fun Kc hKc => ?_))
  cases ht : decide (0 ≤ x ∧ x ≤ 9) with
  | false =>
   have C1 : Hid _ := btw ht V
   unfold c69_17
   go_wp2_with (go_at_call 61; refine Calls.mono C1.out ?_; rintro e V2 ⟨rfl, hb2⟩; dsimp only)
   refine hKc _ _ (To.yes rfl (To.seq (To.code fun Kc hKc => ?_)))
   unfold c69_18
   go_wp2
   exact hKc _ _ (To.ret Try.func69 rfl (results_tmp (t := 2) rfl _ _ _) (HB.out (hany ht) _ (hB.trans (hb2.mono hB.size))))
  | true =>
   rw [ht] at hall
   have C1 : Hid _ := btw ht V
   unfold c69_17
   go_wp2_with (go_at_call 61; refine Calls.mono C1.out ?_; rintro e V2 ⟨rfl, hb2⟩; dsimp only)
   refine hKc _ _ (To.no rfl (To.skip (To.inBlock (To.code fun Kc hKc => ?_))))
   have hw1 : IntKind.i64.wrap ((i : Int) + 1) = (i : Int) + 1 := by rw [IntKind.wrap_i64]; omega
   unfold c69_19
   go_wp2
   refine hKc _ _ (To.inLoop ?_)
   rw [show ((i : Int) + 1) = ((i + 1 : Nat) : Int) by omega]
   exact ih.out (i + 1) (by omega) hall _ _ _ _ _ _ _ _ _ _ _ _ _ _ _ _ _ _ _ _ _ _ _ _ _ _ _ _ _ _ _ _ _ _ _ _ _ _ _ _ _ _ _ _ _ _ _ _ _ _ _ _ _ _ _ _ _ _ _ _ _ _ _ _ _ _ _ _ _ _ _ _ _ _ _ _ V2 (hB.trans (hb2.mono hB.size))
theorem find_none {L : List Int} (h : ∀ e ∈ L, e = 0) : (L.find? fun e => decide (e ≠ 0)).getD 0 = 0 := by
 rw [List.find?_eq_none.2 (fun e he => by simp [h e he])]
 rfl
theorem find_first {L : List Int} {i : Nat} {e : Int} (h : ∀ x ∈ L.take i, x = 0) (hi : L[i]? = some e) (he : e ≠ 0) : (L.find? fun e => decide (e ≠ 0)).getD 0 = e := by
 have h1 : L = L.take i ++ e :: L.drop (i + 1) := by
  obtain ⟨hl, hx⟩ := List.getElem?_eq_some_iff.1 hi
  rw [← hx, ← List.drop_eq_getElem_cons hl, List.take_append_drop]
 rw [h1, List.find?_append, List.find?_eq_none.2 (fun x hx => by simp [h x hx])]
 simp [he]
set_option maxHeartbeats 1000000 in
theorem loop69_2 {cs : List Frame} {K : List Item} {R : Value → World → Prop} (had : Kd.C k39 w Aa na adv) (hns : ns ≤ 9223372036854775807) (B : Nat) (v3 : Value)
  (hR : ∀ V, Below w.heap.size w V → R (.int .i64 (((adv.map (adErr ns)).find? fun e => decide (e ≠ 0)).getD 0)) V)
  (hend : (∀ x ∈ adv, adErr ns x = 0) → ∀ t0 t2 t4 t5 t6 t7 t8 t9 jT jE jN jC jJ jM jR jD jH qY jA xK xM xL jI jK jQ jB jG jO jS jL jP jF qQ qK qZ xD qR qN xH xC xB qS qO jW qI jX qT qL qU xE qV xS xP xR jV jY qW jZ xF qA qG xA qM qJ qC qB xQ xO xN xJ qE jU qP xI xG qH qD qF qX V, Below w.heap.size w V → To Try.prog cs (Out Try.prog 69 R) ((baseN 69).at ({ tmps := #[t0, ptr B, t2, v3, t4, t5, t6, t7, t8, t9, jT, jE, jN, jC, jJ, jM, jR, jD, jH, qY, jA, xK, xM, xL, jI, jK, jQ, jB, jG, jO, jS, jL, jP, jF, qQ, qK, qZ, xD, qR, qN, xH, xC, xB, qS, qO, jW, qI, jX, qT, qL, qU, xE, qV, xS, xP, xR, jV, jY, qW, jZ, xF, qA, qG, xA, qM, qJ, qC, qB, xQ, xO, xN, xJ, qE, jU, qP, xI, xG, qH, qD, qF, qX], defers := [] } : Act) K) V) (hB0 : w.heap[B]? = some (.cells (sal p b l c off grp As ns cs0 Aa na ca) 36 (0, 0))) :
  ∀ (r i : Nat), i + r = na → (∀ x ∈ adv.take i, adErr ns x = 0) → ∀ t0 t2 t4 t5 t6 t7 t8 t9 jT jE jN jC jJ jM jR jD jH qY jA xK xM xL jI jK jQ jB jG jO jS jL jP jF qQ qK qZ xD qR qN xH xC xB qS qO jW qI jX qT qL qU xE qV xS xP xR jV jY qW jZ xF qA qG xA qM qJ qC qB xJ qE jU qP xI xG qH qD qF qX V, Below w.heap.size w V →
   To Try.prog cs (Out Try.prog 69 R) ((baseN 69).at ({ tmps := #[t0, ptr B, t2, v3, t4, t5, t6, t7, t8, t9, jT, jE, jN, jC, jJ, jM, jR, jD, jH, qY, jA, xK, xM, xL, jI, jK, jQ, jB, jG, jO, jS, jL, jP, jF, qQ, qK, qZ, xD, qR, qN, xH, xC, xB, qS, qO, jW, qI, jX, qT, qL, qU, xE, qV, xS, xP, xR, jV, jY, qW, jZ, xF, qA, qG, xA, qM, qJ, qC, qB, .slice Aa na ca, .int .i64 (na : Int), .int .i64 (i : Int), xJ, qE, jU, qP, xI, xG, qH, qD, qF, qX], defers := [] } : Act) (.code l69_2 :: .inLoop l69_2 :: .inBlock 5 :: K)) V := by
 intro r
 have hlen : adv.length = na := Kd.C_len had
 have hmax := Kd.C_max had
 dsimp only at hend ⊢
 induction r with
 | zero =>
  intro i hi ha t0 t2 t4 t5 t6 t7 t8 t9 jT jE jN jC jJ jM jR jD jH qY jA xK xM xL jI jK jQ jB jG jO jS jL jP jF qQ qK qZ xD qR qN xH xC xB qS qO jW qI jX qT qL qU xE qV xS xP xR jV jY qW jZ xF qA qG xA qM qJ qC qB xJ qE jU qP xI xG qH qD qF qX V hB
  obtain rfl : i = na := by omega
  rw [List.take_of_length_le (by omega)] at ha
  have HE : Hid _ := hend ha
  clear hend ha hR
  have hlt : ¬ ((i : Int) < (i : Int)) := by omega
  refine To.seq (To.code fun Kc hKc => ?_)
  unfold c69_23
  go_wp2
  exact hKc _ _ (To.seq (To.no rfl (To.exit rfl (HE.out _ _ _ _ _ _ _ _ _ _ _ _ _ _ _ _ _ _ _ _ _ _ _ _ _ _ _ _ _ _ _ _ _ _ _ _ _ _ _ _ _ _ _ _ _ _ _ _ _ _ _ _ _ _ _ _ _ _ _ _ _ _ _ _ _ _ _ _ _ _ _ _ _ _ _ _ _ _ _ V hB))))
 | succ r ih =>
  intro i hi ha t0 t2 t4 t5 t6 t7 t8 t9 jT jE jN jC jJ jM jR jD jH qY jA xK xM xL jI jK jQ jB jG jO jS jL jP jF qQ qK qZ xD qR qN xH xC xB qS qO jW qI jX qT qL qU xE qV xS xP xR jV jY qW jZ xF qA qG xA qM qJ qC qB xJ qE jU qP xI xG qH qD qF qX V hB
  try dsimp only at ih
  replace ih : Hid _ := ih
  have HE : Hid _ := hend
  have HR : Hid _ := hR
  clear hend hR
  have hlt : (i : Int) < (na : Int) := by omega
  have hil : i < adv.length := by omega
  have hx : adv[i]? = some (rd_T39 adv i) := by
   rw [List.getElem?_eq_getElem hil]
   simp [rd_T39, List.getD_eq_getElem?_getD, hil]
  have hnext : adErr ns (rd_T39 adv i) = 0 → ∀ x ∈ adv.take (i + 1), adErr ns x = 0 := fun h x hxm => by
   rw [List.take_add_one, hx] at hxm
   rcases List.mem_append.1 hxm with hxm | hxm
   ·exact ha x hxm
   ·obtain rfl : x = rd_T39 adv i := by simpa using hxm
    exact h
  have hfirst : adErr ns (rd_T39 adv i) ≠ 0 → ((adv.map (adErr ns)).find? fun e => decide (e ≠ 0)).getD 0 = adErr ns (rd_T39 adv i) := fun h =>
   find_first (i := i) (fun x hxm => by
    rw [← List.map_take] at hxm
    obtain ⟨y, hy, rfl⟩ := List.mem_map.1 hxm
    exact ha y hy) (by rw [List.getElem?_map, hx]; rfl) h
  obtain ⟨ad, e, h0, h1, h2⟩ := at_T39 (Kd.C_below had hB) (i : Int) (by omega) hlt
  generalize hxx : rd_T39 adv i = x at hx h0 h1 h2 hnext hfirst
  clear hxx
  simp only [Int.toNat_natCast] at h0 h1 h2
  subst e
  have HA : Hid _ := ha
  have HN : Hid _ := hnext
  have HF : Hid _ := hfirst
  clear ha hnext hfirst
  refine To.seq (To.code fun Kc hKc => ?_)
  unfold c69_23
  go_wp2
  refine hKc _ _ (To.seq (To.yes rfl (To.skip (To.seq (To.block (To.seq (To.code fun Kc hKc => ?_)))))))
  unfold c69_24
  go_wp2
  have hbox2 := heap_alloc_new V (.cells #[.int .i64 x.f0, .int .i64 x.f1, .int .i64 x.f2] 39)
  have hba : Below V.heap.size V (V.alloc (.cells #[.int .i64 x.f0, .int .i64 x.f1, .int .i64 x.f2] 39)) := (Below.refl _ _).alloc (Nat.le_refl _) _
  have hbw := hB.trans (hba.mono hB.size)
  have hbox := (hbw.block B (blk_lt hB0)).trans hB0
  clear h0 h1 h2 hba
  change Kc _ (V.alloc (.cells #[.int .i64 x.f0, .int .i64 x.f1, .int .i64 x.f2] 39))
  generalize V.alloc (.cells #[.int .i64 x.f0, .int .i64 x.f1, .int .i64 x.f2] 39) = W at hbox hbox2 hbw ⊢
  generalize V.heap.size = g at hbox2 ⊢
  have C70 : Hid _ := calls70 (w := W) (p := p) (b := b) (l := l) (c := c) (off := off) (grp := grp) (As := As) (cs0 := cs0) (Aa := some ad) (na := na) (ca := ca) x hns
  have i36' : (Try.prog.info? 36).map (·.size) = some 8 := by kernel_rfl
  have i39 : (Try.prog.info? 39).map (·.size) = some 3 := by kernel_rfl
  refine hKc _ _ (To.seq (To.code fun Kc hKc => ?_))
  unfold c69_25
  go_wp2_with (first | refine wpList_load_row rfl 36 (.tmp 1) rfl B rfl 36 _ (0, 0) _ hbox Try.underlying36 rfl i36' ?_ | refine wpList_load_row rfl 39 (.tmp 9) rfl g rfl 39 _ (0, 0) _ hbox2 Try.underlying39 rfl i39 ?_ | (go_at_call 70; refine Calls.mono C70.out ?_; rintro e W2 ⟨_, rfl, rfl, hb2⟩; dsimp only))
  have hbV := hbw.trans (hb2.mono hbw.size)
  clear hbox hbox2 C70
  refine hKc _ _ (To.seq (To.code fun Kc hKc => ?_))
  generalize adErr ns x = e at HN HF
  unfold c69_26
  go_wp2
  by_cases he : e = 0
  ·subst he
   refine hKc _ _ (To.no rfl (To.skip (To.inBlock (To.code fun Kc hKc => ?_))))
   have hw1 : IntKind.i64.wrap ((i : Int) + 1) = (i : Int) + 1 := by rw [IntKind.wrap_i64]; omega
   unfold c69_28
   go_wp2
   refine hKc _ _ (To.inLoop ?_)
   rw [show ((i : Int) + 1) = ((i + 1 : Nat) : Int) by omega]
   exact ih.out (i + 1) (by omega) (HN.out (by first | rfl | trivial)) _ _ _ _ _ _ _ _ _ _ _ _ _ _ _ _ _ _ _ _ _ _ _ _ _ _ _ _ _ _ _ _ _ _ _ _ _ _ _ _ _ _ _ _ _ _ _ _ _ _ _ _ _ _ _ _ _ _ _ _ _ _ _ _ _ _ _ _ _ _ _ _ _ _ _ _ W2 hbV
  ·refine hKc _ _ (To.yes (show Value.bool (e != 0) = .bool true by simp [he]) (To.seq (To.code fun Kc hKc => ?_)))
   unfold c69_27
   go_wp2
   refine hKc _ _ (To.ret (v := .int .i64 e) Try.func69 rfl (results_tmp (t := 2) rfl _ _ _) ?_)
   have := HR.out _ hbV
   rw [HF.out he] at this
   exact this
set_option maxHeartbeats 4000000 in
theorem calls69 (hst : Kd.C (Kd.int .i64) w As ns streets) (had : Kd.C k39 w Aa na adv) : Calls Try.prog 69 #[.agg (sal p b l c off grp As ns cs0 Aa na ca)] w fun e w' => e = .returned (.int .i64 (saleErr p b l c off grp streets adv)) ∧ Below w.heap.size w w' := by
 have main : Calls Try.prog 69 #[.agg (sal p b l c off grp As ns cs0 Aa na ca)] w fun e w' => ∃ v, e = .returned v ∧ v = .int .i64 (saleErr p b l c off grp streets adv) ∧ Below w.heap.size w w' := by
  refine calls_of_to (tmps := #[.agg (sal p b l c off grp As ns cs0 Aa na ca), undef, undef, undef, undef, undef, undef, undef, undef, undef, undef, undef, undef, undef, undef, undef, undef, undef, undef, undef, undef, undef, undef, undef, undef, undef, undef, undef, undef, undef, undef, undef, undef, undef, undef, undef, undef, undef, undef, undef, undef, undef, undef, undef, undef, undef, undef, undef, undef, undef, undef, undef, undef, undef, undef, undef, undef, undef, undef, undef, undef, undef, undef, undef, undef, undef, undef, undef, undef, undef, undef, undef, undef, undef, undef, undef, undef, undef, undef, undef, undef]) Try.func69 body69 (by kernel_rfl) fun cs => ?_
  have hlen : streets.length = ns := Kd.C_len hst
  have hlena : adv.length = na := Kd.C_len had
  have hmax := Kd.C_max hst
  have hmaxa := Kd.C_max had
  have r1 : ([p, b, l, c].all fun n => decide (0 ≤ n ∧ n ≤ 999)) = false → saleErr p b l c off grp streets adv = 1 := fun h => if_pos (by rw [h]; decide)
  have r2 : ([p, b, l, c].all fun n => decide (0 ≤ n ∧ n ≤ 999)) = true → ¬ ((0 ≤ off ∧ off ≤ 50) ∧ (1 ≤ grp ∧ grp ≤ 5)) → saleErr p b l c off grp streets adv = 1 := fun h h2 => by unfold saleErr; rw [if_neg (fun k => k h), if_pos h2]
  have r3 : ([p, b, l, c].all fun n => decide (0 ≤ n ∧ n ≤ 999)) = true → ((0 ≤ off ∧ off ≤ 50) ∧ (1 ≤ grp ∧ grp ≤ 5)) → saleErr p b l c off grp streets adv = if streets.length = 0 then 7 else if 5 < streets.length then 6 else if ¬ (streets.all fun n => decide (0 ≤ n ∧ n ≤ 9)) = true then 1
   else if 8 < adv.length then 6 else ((adv.map (adErr streets.length)).find? fun e => decide (e ≠ 0)).getD 0 := fun h h2 => by unfold saleErr; rw [if_neg (fun k => k h), if_neg (fun k => k h2)]
  rw [hlen, hlena] at r3
  generalize saleErr p b l c off grp streets adv = r at r1 r2 r3 ⊢
  have R1 : Hid _ := r1
  have R2 : Hid _ := r2
  have R3 : Hid _ := r3
  clear r1 r2 r3
  unfold b69
  refine To.seq (To.code fun Kc hKc => ?_)
  unfold c69_0
  go_wp2
  have hbox := heap_alloc_new w (.cells (sal p b l c off grp As ns cs0 Aa na ca) 36)
  have hbw : Below w.heap.size w (w.alloc (.cells (sal p b l c off grp As ns cs0 Aa na ca) 36)) := (Below.refl _ _).alloc (Nat.le_refl _) _
  generalize w.alloc (.cells (sal p b l c off grp As ns cs0 Aa na ca) 36) = W at hbox hbw ⊢
  have hgw : w.heap.size ≤ W.heap.size := hbw.size
  have e0 := blk_cell hbox 0
  have e1 := blk_cell hbox 1
  have e2 := blk_cell hbox 2
  have e3 := blk_cell hbox 3
  have e4 := blk_cell hbox 4
  have e5 := blk_cell hbox 5
  refine hKc _ _ (To.seq (To.code fun Kc hKc => ?_))
  unfold c69_1
  go_wp2
  have hC := heap_alloc_new W (.cells #[.int .i64 p, .int .i64 b, .int .i64 l, .int .i64 c, .int .i64 off, .int .i64 grp] 33)
  have hbC : Below W.heap.size W (W.alloc (.cells #[.int .i64 p, .int .i64 b, .int .i64 l, .int .i64 c, .int .i64 off, .int .i64 grp] 33)) := (Below.refl _ _).alloc (Nat.le_refl _) _
  replace hbox := (hbC.block _ (blk_lt hbox)).trans hbox
  have hb2 := hbw.trans (hbC.mono hgw)
  change Kc _ (W.alloc (.cells #[.int .i64 p, .int .i64 b, .int .i64 l, .int .i64 c, .int .i64 off, .int .i64 grp] 33))
  generalize W.alloc (.cells #[.int .i64 p, .int .i64 b, .int .i64 l, .int .i64 c, .int .i64 off, .int .i64 grp] 33) = W1 at hC hbox hb2 ⊢
  generalize W.heap.size = C at hC ⊢
  clear hbC e0 e1 e2 e3 e4 e5 hbw hgw
  have f0 := blk_cell hC 0
  have f1 := blk_cell hC 1
  have f2 := blk_cell hC 2
  have f3 := blk_cell hC 3
  refine hKc _ _ (To.seq (To.seq (To.code fun Kc hKc => ?_)))
  unfold c69_2
  go_wp2
  have hq : (W1.alloc (.cells #[.int .i64 p, .int .i64 b, .int .i64 l, .int .i64 c] 3)).heap[W1.heap.size]? = some (.cells (nums .i64 [p, b, l, c]).toArray 3 (0, 0)) := heap_alloc_new W1 _
  have hbq : Below W1.heap.size W1 (W1.alloc (.cells #[.int .i64 p, .int .i64 b, .int .i64 l, .int .i64 c] 3)) := (Below.refl _ _).alloc (Nat.le_refl _) _
  replace hbox := (hbq.block _ (blk_lt hbox)).trans hbox
  replace hC := (hbq.block _ (blk_lt hC)).trans hC
  replace hb2 := hb2.trans (hbq.mono hb2.size)
  change Kc _ (W1.alloc (.cells #[.int .i64 p, .int .i64 b, .int .i64 l, .int .i64 c] 3))
  generalize W1.alloc (.cells #[.int .i64 p, .int .i64 b, .int .i64 l, .int .i64 c] 3) = W2 at hC hbox hb2 hq ⊢
  generalize W1.heap.size = Q at hq ⊢
  clear hbq f0 f1 f2 f3
  have hout : ∀ V, Below W2.heap.size W2 V → Below w.heap.size w V := fun V h => hb2.trans (h.mono hb2.size)
  have HO : Hid _ := hout
  clear hout
  refine hKc _ _ (To.block (To.loop ?_))
  refine loop69_0 (w := W2) Q [p, b, l, c] rfl (ptr w.heap.size) (ptr C) (fun hbad V hV => ⟨by rw [R1.out hbad], HO.out V hV⟩) (fun hok => ?_) hq 4 0 rfl rfl _ _ _ _ _ _ _ _ _ _ _ _ _ _ _ _ _ _ _ _ _ _ _ _ _ _ _ _ _ _ _ _ _ _ _ _ _ _ _ _ _ _ _ _ _ _ _ _ _ _ _ _ _ _ _ _ _ _ _ _ _ _ _ _ _ _ _ _ _ _ _ _ _ _ _ _ W2 (Below.refl _ _)
  intro t0 t2 t4 t5 t6 t7 t8 t9 jT jE jN jC jJ jM jR jD jH qY jA xK xM xL jI jK jQ jB jG jO jS jL jP jF qQ qK qZ xD qR qN xH xC xB qS qO jW qI jX qT qL qU xE qV xS xP xR jV jY qW jZ xF qA qG xA qM qJ qC qB xQ xO xN xJ qE jU qP xI xG qH qD qF qX V1 hV1
  try dsimp only
  have hC1 := (hV1.block _ (blk_lt hC)).trans hC
  have f4 := blk_cell hC1 4
  refine To.seq (To.block (To.seq (To.code fun Kc hKc => ?_)))
  have fin1 : ∀ t0 t1 t3 t4 t5 t6 t7 t8 t9 jT jE jN jC jJ jM jR jD jH qY jA xK xM xL jI jK jQ jB jG jO jS jL jP jF qQ qK qZ xD qR qN xH xC xB qS qO jW qI jX qT qL qU xE qV xS xP xR jV jY qW jZ xF qA qG xA qM qJ qC qB xQ xO xN xJ qE jU qP xI xG qH qD qF qX V, Below W2.heap.size W2 V → r = 1 → To Try.prog cs (Out Try.prog 69 fun v w' => v = .int .i64 r ∧ Below w.heap.size w w') ((baseN 69).at ({ tmps := #[t0, t1, .int .i64 1, t3, t4, t5, t6, t7, t8, t9, jT, jE, jN, jC, jJ, jM, jR, jD, jH, qY, jA, xK, xM, xL, jI, jK, jQ, jB, jG, jO, jS, jL, jP, jF, qQ, qK, qZ, xD, qR, qN, xH, xC, xB, qS, qO, jW, qI, jX, qT, qL, qU, xE, qV, xS, xP, xR, jV, jY, qW, jZ, xF, qA, qG, xA, qM, qJ, qC, qB, xQ, xO, xN, xJ, qE, jU, qP, xI, xG, qH, qD, qF, qX], defers := [] } : Act) [.code Code.ret, .inBlock 2, .code (.seq (.seq (.region 14 c69_14 false) (.block 3 (.loop l69_1))) (.seq (.seq (.region 20 c69_20 false) (.cond (.tmp 66) (.seq (.region 21 c69_21 false) Code.ret) Code.skip)) (.seq (.seq (.region 22 c69_22 false) (.block 5 (.loop l69_2))) (.seq (.region 29 c69_29 false) Code.ret))))]) V := fun t0 t1 t3 t4 t5 t6 t7 t8 t9 jT jE jN jC jJ jM jR jD jH qY jA xK xM xL jI jK jQ jB jG jO jS jL jP jF qQ qK qZ xD qR qN xH xC xB qS qO jW qI jX qT qL qU xE qV xS xP xR jV jY qW jZ xF qA qG xA qM qJ qC qB xQ xO xN xJ qE jU qP xI xG qH qD qF qX V hV hr =>
   To.ret (v := .int .i64 1) Try.func69 rfl (results_tmp (t := 2) rfl _ _ _) ⟨by rw [hr], HO.out V hV⟩
  have F1 : Hid _ := fin1
  clear fin1
  have b61 : ∀ {x y z : Int} {t : Bool}, decide (y ≤ x ∧ x ≤ z) = t → ∀ (a : Array Value) (V : World), a = #[.int .i64 x, .int .i64 y, .int .i64 z] → Calls Try.prog 61 a V fun e w' => e = .returned (.bool t) ∧ Below V.heap.size V w' := fun h a V ha => by subst ha; exact btw h V
  by_cases h4 : 0 ≤ off ∧ off ≤ 50
  case neg =>
   have C1 : Hid _ := b61 (decide_eq_false h4)
   unfold c69_8
   go_wp2_with (go_at_call 61; refine Calls.mono (C1.out _ _ rfl) ?_; rintro e V2 ⟨rfl, hv2⟩; dsimp only)
   refine hKc _ _ (To.yes rfl (To.seq (To.code fun Kc hKc => ?_)))
   unfold c69_9
   go_wp2
   exact hKc _ _ (F1.out _ _ _ _ _ _ _ _ _ _ _ _ _ _ _ _ _ _ _ _ _ _ _ _ _ _ _ _ _ _ _ _ _ _ _ _ _ _ _ _ _ _ _ _ _ _ _ _ _ _ _ _ _ _ _ _ _ _ _ _ _ _ _ _ _ _ _ _ _ _ _ _ _ _ _ _ _ _ _ _ _ (hV1.trans (hv2.mono hV1.size)) (R2.out hok fun h => h4 h.1))
  by_cases h5 : 1 ≤ grp ∧ grp ≤ 5
  case neg =>
   have C1 : Hid _ := b61 (decide_eq_true h4)
   have C2 : Hid _ := b61 (decide_eq_false h5)
   unfold c69_8
   go_wp2_with (first | (go_at_call 61; refine Calls.mono (C1.out _ _ rfl) ?_; rintro e V2 ⟨rfl, hv2⟩; have f5 := blk_cell ((hv2.block _ (blk_lt hC1)).trans hC1) 5; dsimp only) | (go_at_call 61; refine Calls.mono (C2.out _ _ rfl) ?_; rintro e V3 ⟨rfl, hv3⟩; dsimp only))
   refine hKc _ _ (To.yes rfl (To.seq (To.code fun Kc hKc => ?_)))
   unfold c69_9
   go_wp2
   exact hKc _ _ (F1.out _ _ _ _ _ _ _ _ _ _ _ _ _ _ _ _ _ _ _ _ _ _ _ _ _ _ _ _ _ _ _ _ _ _ _ _ _ _ _ _ _ _ _ _ _ _ _ _ _ _ _ _ _ _ _ _ _ _ _ _ _ _ _ _ _ _ _ _ _ _ _ _ _ _ _ _ _ _ _ _ _ (hV1.trans ((hv2.trans (hv3.mono hv2.size)).mono hV1.size)) (R2.out hok fun h => h5 h.2))
  have hr := R3.out hok ⟨h4, h5⟩
  have C1 : Hid _ := b61 (decide_eq_true h4)
  have C2 : Hid _ := b61 (decide_eq_true h5)
  unfold c69_8
  go_wp2_with (first | (go_at_call 61; refine Calls.mono (C1.out _ _ rfl) ?_; rintro e V2 ⟨rfl, hv2⟩; have f5 := blk_cell ((hv2.block _ (blk_lt hC1)).trans hC1) 5; dsimp only) | (go_at_call 61; refine Calls.mono (C2.out _ _ rfl) ?_; rintro e V3 ⟨rfl, hv3⟩; dsimp only))
  have hV3 := hV1.trans ((hv2.trans (hv3.mono hv2.size)).mono hV1.size)
  clear hv2 hv3 f4 f5 C1 C2 hV1 hC1 b61 R2
  have hbx := (hV3.block _ (blk_lt hbox)).trans hbox
  have f6 := blk_cell hbx 6
  have f7 := blk_cell hbx 7
  refine hKc _ _ (To.no rfl (To.seq (To.code fun Kc hKc => ?_)))
  by_cases h6 : ns = 0
  ·unfold c69_10
   go_wp2
   refine hKc _ _ (To.yes rfl (To.seq (To.code fun Kc hKc => ?_)))
   unfold c69_11
   go_wp2
   exact hKc _ _ (To.ret (v := .int .i64 7) Try.func69 rfl (results_tmp (t := 2) rfl _ _ _) ⟨by rw [hr, if_pos h6], HO.out _ hV3⟩)
  rw [if_neg h6] at hr
  unfold c69_10
  go_wp2
  refine hKc _ _ (To.no (show Value.bool ((ns : Int) == 0) = .bool false by simp; omega) (To.seq (To.code fun Kc hKc => ?_)))
  by_cases h7 : 5 < ns
  ·unfold c69_12
   go_wp2
   refine hKc _ _ (To.yes (show Value.bool (decide ((5 : Int) < (ns : Int))) = .bool true by rw [decide_eq_true (by omega)]) (To.seq (To.code fun Kc hKc => ?_)))
   unfold c69_13
   go_wp2
   exact hKc _ _ (To.ret (v := .int .i64 6) Try.func69 rfl (results_tmp (t := 2) rfl _ _ _) ⟨by rw [hr, if_pos h7], HO.out _ hV3⟩)
  rw [if_neg h7] at hr
  unfold c69_12
  go_wp2
  refine hKc _ _ (To.no (show Value.bool (decide ((5 : Int) < (ns : Int))) = .bool false by rw [decide_eq_false (by omega)]) (To.skip (To.inBlock (To.seq (To.seq (To.code fun Kc hKc => ?_))))))
  unfold c69_14
  go_wp2
  have hb3 := HO.out _ hV3
  refine hKc _ _ (To.block (To.loop ?_))
  refine loop69_1 (w := V3) (Kd.C_below hst hb3) (ptr w.heap.size) (ptr C) (fun hbad V hV => ⟨by rw [hr, if_pos (by rw [hbad]; decide)], hb3.trans (hV.mono hb3.size)⟩) (fun hok2 => ?_) ns 0 (by omega) rfl _ _ _ _ _ _ _ _ _ _ _ _ _ _ _ _ _ _ _ _ _ _ _ _ _ _ _ _ _ _ _ _ _ _ _ _ _ _ _ _ _ _ _ _ _ _ _ _ _ _ _ _ _ _ _ _ _ _ _ _ _ _ _ _ _ _ _ _ _ _ _ _ _ _ _ _ V3 (Below.refl _ _)
  rw [if_neg (fun k => k hok2)] at hr
  intro t0 t2 t4 t5 t6 t7 t8 t9 jT jE jN jC jJ jM jR jD jH qY jA xK xM xL jI jK jQ jB jG jO jS jL jP jF qQ qK qZ xD qR qN xH xC xB qS qO jW qI jX qT qL qU xE qV xS xP xR jV jY qW jZ xF qA qG xA qM qJ qC qB xQ xO xN xJ qE jU qP xI xG qH qD qF qX V4 hV4
  try dsimp only
  have hb4 := hb3.trans (hV4.mono hb3.size)
  have hbx4 := (hV4.block _ (blk_lt hbx)).trans hbx
  clear f6 f7 hV3 hbx
  have f7 := blk_cell hbx4 7
  refine To.seq (To.seq (To.code fun Kc hKc => ?_))
  by_cases h8 : 8 < na
  ·unfold c69_20
   go_wp2
   refine hKc _ _ (To.yes (show Value.bool (decide ((8 : Int) < (na : Int))) = .bool true by rw [decide_eq_true (by omega)]) (To.seq (To.code fun Kc hKc => ?_)))
   unfold c69_21
   go_wp2
   exact hKc _ _ (To.ret (v := .int .i64 6) Try.func69 rfl (results_tmp (t := 2) rfl _ _ _) ⟨by rw [hr, if_pos h8], hb4⟩)
  rw [if_neg h8] at hr
  unfold c69_20
  go_wp2
  refine hKc _ _ (To.no (show Value.bool (decide ((8 : Int) < (na : Int))) = .bool false by rw [decide_eq_false (by omega)]) (To.skip (To.seq (To.seq (To.code fun Kc hKc => ?_)))))
  unfold c69_22
  go_wp2
  refine hKc _ _ (To.block (To.loop ?_))
  refine loop69_2 (w := V4) (Kd.C_below had hb4) (by omega) w.heap.size (ptr C) (fun V hV => ⟨by rw [hr], hb4.trans (hV.mono hb4.size)⟩) (fun hall => ?_) hbx4 na 0 (by omega) (fun x hx => by cases hx) _ _ _ _ _ _ _ _ _ _ _ _ _ _ _ _ _ _ _ _ _ _ _ _ _ _ _ _ _ _ _ _ _ _ _ _ _ _ _ _ _ _ _ _ _ _ _ _ _ _ _ _ _ _ _ _ _ _ _ _ _ _ _ _ _ _ _ _ _ _ _ _ _ _ _ _ V4 (Below.refl _ _)
  intro t0 t2 t4 t5 t6 t7 t8 t9 jT jE jN jC jJ jM jR jD jH qY jA xK xM xL jI jK jQ jB jG jO jS jL jP jF qQ qK qZ xD qR qN xH xC xB qS qO jW qI jX qT qL qU xE qV xS xP xR jV jY qW jZ xF qA qG xA qM qJ qC qB xQ xO xN xJ qE jU qP xI xG qH qD qF qX V5 hV5
  try dsimp only
  refine To.seq (To.code fun Kc hKc => ?_)
  unfold c69_29
  go_wp2
  refine hKc _ _ (To.ret (v := .int .i64 0) Try.func69 rfl (results_tmp (t := 2) rfl _ _ _) ⟨?_, hb4.trans (hV5.mono hb4.size)⟩)
  rw [hr, find_none (fun e he => by
   obtain ⟨y, hy, rfl⟩ := List.mem_map.1 he
   exact hall y hy)]
 exact main.mono fun e w' ⟨v, h1, h2, h3⟩ => ⟨by rw [h1, h2], h3⟩
end
noncomputable def c28_0 : Array Oper := (fun {c} (_ : rg Try.f28 0 = some c) => c) rfl
noncomputable def c28_1 : Array Oper := (fun {c} (_ : rg Try.f28 1 = some c) => c) rfl
noncomputable def c28_2 : Array Oper := (fun {c} (_ : rg Try.f28 2 = some c) => c) rfl
noncomputable def c28_3 : Array Oper := (fun {c} (_ : rg Try.f28 3 = some c) => c) rfl
noncomputable def c28_4 : Array Oper := (fun {c} (_ : rg Try.f28 4 = some c) => c) rfl
noncomputable def b28 : Code := (.seq (.region 0 c28_0 false) (.seq (.seq (.region 1 c28_1 false) (.seq (.region 2 c28_2 false) (.cond (Operand.tmp 8) (.seq (.region 3 c28_3 false) Code.ret) Code.skip))) (.seq (.region 4 c28_4 false) Code.ret)))
theorem body28 : Try.f28.body = some b28 := by kernel_rfl
structure Lists (w : World) (As : Option Addr) (ns cs0 : Nat) (Aa : Option Addr) (na ca : Nat) (streets : List Int) (adv : List S39) : Prop where
 st : Kd.C (Kd.int .i64) w As ns streets
 ad : Kd.C k39 w Aa na adv
 lens : streets.length = ns
 lena : adv.length = na
 caps : ns ≤ cs0
 capa : na ≤ ca
theorem i36 : (Try.prog.info? 36).map (·.size) = some 8 := by kernel_rfl
section
variable {R : Row} {w0 : World} {p b l c off grp : Int} {As Aa : Option Addr} {ns ca cs0 na : Nat} {streets : List Int} {adv : List S39}
theorem Lists.below {w1 : World} (h : Lists w0 As ns cs0 Aa na ca streets adv) (hb : Below w0.heap.size w0 w1) : Lists w1 As ns cs0 Aa na ca streets adv := ⟨Kd.C_below h.st hb, Kd.C_below h.ad hb, h.lens, h.lena, h.caps, h.capa⟩
theorem Lists.on (h : Lists w0 As ns cs0 Aa na ca streets adv) (τ : Tape) (d : Nat) : Lists (w0.on τ d) As ns cs0 Aa na ca streets adv := ⟨h.st, h.ad, h.lens, h.lena, h.caps, h.capa⟩
theorem Lists.check (h : Lists w0 As ns cs0 Aa na ca streets adv) {r : Int} (hc : saleErr p b l c off grp streets adv = r) :
  Calls Try.prog 69 #[.agg (sal p b l c off grp As ns cs0 Aa na ca)] w0 fun e w' => e = .returned (.int .i64 r) ∧ Below w0.heap.size w0 w' := by
 subst hc
 exact calls69 h.st h.ad
theorem row28 (hP : R.P = Try.prog) (hL : Lists w0 As ns cs0 Aa na ca streets adv) {r : Int} (hc : saleErr p b l c off grp streets adv = r) (hS : r = 0 → Sold w0 As ns Aa na streets adv) :
  R.Calls 28 #[.agg (sal p b l c off grp As ns cs0 Aa na ca)] w0 fun v w1 => Fr w0 w1 ∧ ∃ v1, v = .tuple #[v1, .int .i64 r] ∧ if r = 0 then Nums w0 (billsOf p b l c off grp streets adv) v1 w1 else v1 = .slice none 0 0 := by
 refine Row.calls_from (tmps := #[.agg (sal p b l c off grp As ns cs0 Aa na ca), undef, undef, undef, undef, undef, undef, undef, undef, undef, undef, undef]) (fn := Try.f28) (by rw [hP]; kernel_rfl) body28 (by kernel_rfl) fun hp ok cs hK => ?_
 by_cases hr : r = 0
 ·subst hr
  refine Row.to (X := At (baseN 28) [.inRegion c28_4 [1, 2, 3], .code .ret] fun a w => (∃ t0 t1 t2 t3 t4 t5 t6 t7 t8 t9 jA, a = ({ tmps := #[t0, t1, t2, t3, t4, t5, t6, t7, t8, t9, .agg (sal p b l c off grp As ns cs0 Aa na ca), jA], defers := [] } : Act)) ∧ Fr w0 w) ok rfl hp (fun τ d => ?_) ?_
  ·rw [hP]
   have hLo := hL.on τ d
   have hwon : Fr w0 (w0.on τ d) := ⟨rfl, rfl, Nat.le_refl _, fun _ _ => rfl⟩
   generalize w0.on τ d = w at hLo hwon ⊢
   unfold b28
   refine To.seq (To.code fun Kc hKc => ?_)
   unfold c28_0
   go_wp2
   have hbox := heap_alloc_new w (.cells (sal p b l c off grp As ns cs0 Aa na ca) 36)
   have hbw : Below w.heap.size w (w.alloc (.cells (sal p b l c off grp As ns cs0 Aa na ca) 36)) := (Below.refl _ _).alloc (Nat.le_refl _) _
   have hs : w.heap.size < (w.alloc (.cells (sal p b l c off grp As ns cs0 Aa na ca) 36)).heap.size := by simp
   generalize w.alloc (.cells (sal p b l c off grp As ns cs0 Aa na ca) 36) = W at hbox hbw hs ⊢
   refine hKc _ _ (To.seq (To.seq (To.code fun Kc hKc => ?_)))
   unfold c28_1
   go_wp2_with (first | refine wpList_load_row rfl 36 (.tmp 1) rfl w.heap.size rfl 36 _ (0, 0) _ hbox Try.underlying36 rfl i36 ?_ | (go_at_call 69; refine Calls.mono ((hLo.below hbw).check hc) ?_; rintro e w' ⟨rfl, hb⟩; dsimp only))
   replace hbox := (hb.block _ hs).trans hbox
   have hbw' : Below w.heap.size w w' := hbw.trans (hb.mono hbw.size)
   refine hKc _ _ (To.seq (To.code fun Kc hKc => ?_))
   unfold c28_2
   go_wp2
   refine hKc _ _ (To.no rfl (To.skip (To.seq (To.region rfl (To.op (o := ⟨some 10, .load 36 (.tmp 1), 36, "bold.go:200", #[], none⟩) rfl rfl fun Kc hKc => ?_)))))
   refine wp_load_row 36 (.tmp 1) rfl w.heap.size rfl 36 _ (0, 0) _ hbox Try.underlying36 rfl i36 ?_
   refine hKc _ _ (To.here ⟨_, rfl, ⟨_, _, _, _, _, _, _, _, _, _, _, rfl⟩, hwon.trans (Fr.of_below hbw')⟩)
  ·rintro fr w1 ⟨a, rfl, ⟨t0, t1, t2, t3, t4, t5, t6, t7, t8, t9, jA, rfl⟩, hf⟩ ok1 hk1 hp1
   refine Row.callOp (o := ⟨some 11, .call ⟨.value (.func 72), #[.tmp 10], #[36]⟩, 22, "bold.go:200", #[⟨0, .data⟩], none⟩) ok1 rfl hp1 rfl rfl (fun w => ?_) (row72 (p := p) (b := b) (l := l) (c := c) (off := off) (grp := grp) (ca := ca) (cs0 := cs0) hP ((hS rfl).fr hf)) fun v w2 hv hp2 ok2 => ?_
   ·rw [hP]
    exact run_call rfl (show Try.prog.funcs[72]? = some Try.f72 by kernel_rfl) rfl rfl (by simp [Act.eval])
   ·obtain ⟨⟨g, rfl, hg, hcell⟩, hf2⟩ := hv
    refine Row.to ok2 rfl hp2 (fun τ d => ?_) fun fr w3 hx ok3 _ hp3 => hK fr w3 hx ok3 hp3
    rw [hP]
    refine To.op (o := ⟨some 2, .assign (.tmp 11), 22, "bold.go:200", #[⟨1, .data⟩, ⟨1, .chain⟩, ⟨0, .phase⟩, ⟨1, .phase⟩], none⟩) rfl rfl fun Kc hKc => ?_
    go_simp
    refine hKc _ _ (To.op (o := ⟨some 3, .assign (.const (.int .i64 0)), 27, "bold.go:200", #[⟨2, .chain⟩, ⟨0, .phase⟩, ⟨1, .phase⟩, ⟨2, .phase⟩], none⟩) rfl rfl fun Kc hKc => ?_)
    go_simp
    refine hKc _ _ (To.regionEnd (To.ret Try.func28 rfl (results_tmp2 rfl _ _ _) ⟨?_, _, rfl, ?_⟩))
    ·exact (hf.trans hf2).trans ⟨rfl, rfl, Nat.le_refl _, fun _ _ => rfl⟩
    ·rw [if_pos rfl]
     exact ⟨g, rfl, Nat.le_trans hf.size hg, hcell⟩
 ·refine Row.to ok rfl hp (fun τ d => ?_) fun fr w3 hx ok3 _ hp3 => hK fr w3 hx ok3 hp3
  rw [hP]
  have hLo := hL.on τ d
  have hwon : Fr w0 (w0.on τ d) := ⟨rfl, rfl, Nat.le_refl _, fun _ _ => rfl⟩
  generalize w0.on τ d = w at hLo hwon ⊢
  unfold b28
  refine To.seq (To.code fun Kc hKc => ?_)
  unfold c28_0
  go_wp2
  have hbox := heap_alloc_new w (.cells (sal p b l c off grp As ns cs0 Aa na ca) 36)
  have hbw : Below w.heap.size w (w.alloc (.cells (sal p b l c off grp As ns cs0 Aa na ca) 36)) := (Below.refl _ _).alloc (Nat.le_refl _) _
  generalize w.alloc (.cells (sal p b l c off grp As ns cs0 Aa na ca) 36) = W at hbox hbw ⊢
  refine hKc _ _ (To.seq (To.seq (To.code fun Kc hKc => ?_)))
  unfold c28_1
  go_wp2_with (first | refine wpList_load_row rfl 36 (.tmp 1) rfl w.heap.size rfl 36 _ (0, 0) _ hbox Try.underlying36 rfl i36 ?_ | (go_at_call 69; refine Calls.mono ((hLo.below hbw).check hc) ?_; rintro e w' ⟨rfl, hb⟩; dsimp only))
  have hbw' : Below w.heap.size w w' := hbw.trans (hb.mono hbw.size)
  refine hKc _ _ (To.seq (To.code fun Kc hKc => ?_))
  unfold c28_2
  go_wp2
  refine hKc _ _ (To.yes (show Value.bool (r != 0) = .bool true by simp [hr]) (To.seq (To.code fun Kc hKc => ?_)))
  unfold c28_3
  go_wp2
  refine hKc _ _ (To.ret Try.func28 rfl (results_tmp2 rfl _ _ _) ⟨hwon.trans (Fr.of_below hbw'), _, rfl, ?_⟩)
  rw [if_neg hr]
  rfl
end
noncomputable def c27_0 : Array Oper := (fun {c} (_ : rg Try.f27 0 = some c) => c) rfl
noncomputable def c27_1 : Array Oper := (fun {c} (_ : rg Try.f27 1 = some c) => c) rfl
noncomputable def c27_2 : Array Oper := (fun {c} (_ : rg Try.f27 2 = some c) => c) rfl
noncomputable def c27_3 : Array Oper := (fun {c} (_ : rg Try.f27 3 = some c) => c) rfl
noncomputable def c27_4 : Array Oper := (fun {c} (_ : rg Try.f27 4 = some c) => c) rfl
noncomputable def c27_5 : Array Oper := (fun {c} (_ : rg Try.f27 5 = some c) => c) rfl
noncomputable def c27_6 : Array Oper := (fun {c} (_ : rg Try.f27 6 = some c) => c) rfl
noncomputable def c27_7 : Array Oper := (fun {c} (_ : rg Try.f27 7 = some c) => c) rfl
noncomputable def c27_8 : Array Oper := (fun {c} (_ : rg Try.f27 8 = some c) => c) rfl
noncomputable def c27_9 : Array Oper := (fun {c} (_ : rg Try.f27 9 = some c) => c) rfl
noncomputable def b27 : Code := (.seq (.region 0 c27_0 false) (.seq (.seq (.region 1 c27_1 false) (.seq (.region 2 c27_2 false) (.cond (Operand.tmp 11) (.seq (.region 3 c27_3 false) Code.ret) Code.skip))) (.seq (.seq (.region 4 c27_4 false) (.seq (.region 5 c27_5 false) (.cond (Operand.tmp 17) (.seq (.region 6 c27_6 false) Code.ret) Code.skip))) (.seq (.seq (.region 7 c27_7 false) (.cond (Operand.tmp 22) (.seq (.region 8 c27_8 false) Code.ret) Code.skip)) (.seq (.region 9 c27_9 true) Code.ret)))))
theorem body27 : Try.f27.body = some b27 := by kernel_rfl
def NumsAt (l : List Int) (v : Value) (w : World) : Prop := ∃ g, v = .slice (some ⟨g, 0, none⟩) l.length l.length ∧ w.heap[g]? = some (.cells (nums .i64 l).toArray 3 (0, 0))
theorem NumsAt.fr {l : List Int} {v : Value} {w w' : World} (h : NumsAt l v w) (hf : Fr w w') : NumsAt l v w' := by
 obtain ⟨g, rfl, hg⟩ := h
 exact ⟨g, rfl, (hf.same g (blk_lt hg)).trans hg⟩
theorem Nums.at {w0 w1 : World} {l : List Int} {v : Value} (h : Nums w0 l v w1) : NumsAt l v w1 := by
 obtain ⟨g, h1, _, h2⟩ := h.ex
 exact ⟨g, h1, h2⟩
theorem kd_nums {l : List Int} {g : Nat} {w : World} (h : w.heap[g]? = some (.cells (nums .i64 l).toArray 3 (0, 0))) (hl : l.length ≤ 400) : Kd.C (Kd.int .i64) w (some ⟨g, 0, none⟩) l.length l := by
 refine ⟨rfl, by omega, fun _ => ⟨_, rfl, fun j p hp => ⟨[.int .i64 p], rfl, rfl, fun i u hu => ?_⟩⟩⟩
 have hi : i = 0 := by
  have := (List.getElem?_eq_some_iff.1 hu).1
  simp at this
  exact this
 subst hi
 have e : u = .int .i64 p := by simpa using hu.symm
 subst e
 show w.cell? ((⟨g, 0, none⟩ : Addr).add (j * 1 + 0)) = _
 rw [Nat.mul_one, Nat.add_zero, add_plain, blk_cell h]
 simp [nums, hp]
theorem k39_fr {w w' : World} {A : Option Addr} {n : Nat} {xs : List S39} (h : Kd.C k39 w A n xs) (hf : Fr w w') : Kd.C k39 w' A n xs := by
 have h1 : Kd.C k39 { w' with tape := w.tape } A n xs := Kd.C_below h ⟨hf.os, rfl, hf.output, hf.size, hf.same⟩
 exact ⟨h1.1, h1.2.1, h1.2.2⟩
theorem kint_fr {w w' : World} {A : Option Addr} {n : Nat} {xs : List Int} (h : Kd.C (Kd.int .i64) w A n xs) (hf : Fr w w') : Kd.C (Kd.int .i64) w' A n xs := by
 have h1 : Kd.C (Kd.int .i64) { w' with tape := w.tape } A n xs := Kd.C_below h ⟨hf.os, rfl, hf.output, hf.size, hf.same⟩
 exact ⟨h1.1, h1.2.1, h1.2.2⟩
def worthOf (r e : Int) (na : Nat) (d : Int) : Int × Int := if r ≠ 0 then (0, r) else if e ≠ 0 then (0, e) else if 8 ≤ na then (0, 6) else (d, 0)
def dst27 : Nat → Nat := fun j => [23, 24, 25, 26, 27, 28, 29, 30, 31, 4, 5].getD j 0
def deps27 : Nat → List Nat := fun j => [[], [], [0, 1], [2], [3], [], [5], [6], [4, 7], [8], []].getD j []
def seq27 : List Nat → List Nat → Bool
 | done, [] => done.contains 9 && done.contains 10
 | done, j :: rest => decide (j ≤ 10) && !done.contains j && (deps27 j).all done.contains && seq27 (j :: done) rest
section
variable {R : Row} {w0 : World} {p b l c off grp : Int} {As Aa : Option Addr} {ns ca cs0 na : Nat} {streets : List Int} {adv : List S39} {x : S39} {s1 s0 : Int} {B : Nat}
def Fact27 (p b l c off grp : Int) (As : Option Addr) (ns cs0 : Nat) (Aa : Option Addr) (na ca : Nat) (streets : List Int) (adv : List S39) (x : S39) (s1 s0 : Int) : Nat → Value → World → Prop
 | 0, v, _ => v = .agg (sal p b l c off grp As ns cs0 Aa na ca)
 | 1, v, _ => v = .agg #[.int .i64 x.f0, .int .i64 x.f1, .int .i64 x.f2]
 | 2, v, w => ∃ A2 c2, v = .agg (sal p b l c off grp As ns cs0 A2 (na + 1) c2) ∧ na + 1 ≤ c2 ∧ Kd.C k39 w A2 (na + 1) (adv ++ [x])
 | 3, v, w => NumsAt (billsOf p b l c off grp streets (adv ++ [x])) v w
 | 4, v, _ => v = .int .i64 s1
 | 5, v, _ => v = .agg (sal p b l c off grp As ns cs0 Aa na ca)
 | 6, v, w => NumsAt (billsOf p b l c off grp streets adv) v w
 | 7, v, _ => v = .int .i64 s0
 | 8, v, _ => v = .int .i64 (wrap64 (s1 - s0))
 | 9, v, _ => v = .int .i64 (wrap64 (s1 - s0))
 | 10, v, _ => v = .int .i64 0
 | _, _, _ => False
theorem Fact27.fr {j : Nat} {v : Value} {w w' : World} (h : Fact27 p b l c off grp As ns cs0 Aa na ca streets adv x s1 s0 j v w) (hf : Fr w w') : Fact27 p b l c off grp As ns cs0 Aa na ca streets adv x s1 s0 j v w' := by
 match j, h with
 | 0, h => exact h
 | 1, h => exact h
 | 2, ⟨A2, c2, h1, h2, h3⟩ => exact ⟨A2, c2, h1, h2, k39_fr h3 hf⟩
 | 3, h => exact NumsAt.fr h hf
 | 4, h => exact h
 | 5, h => exact h
 | 6, h => exact NumsAt.fr h hf
 | 7, h => exact h
 | 8, h => exact h
 | 9, h => exact h
 | 10, h => exact h
 | n + 11, h => exact False.elim h
structure Inv27 (w0 : World) (p b l c off grp : Int) (As : Option Addr) (ns cs0 : Nat) (Aa : Option Addr) (na ca : Nat) (streets : List Int) (adv : List S39) (x : S39) (s1 s0 : Int) (B : Nat) (done : List Nat) (t : Array Value) (w : World) : Prop where
 size : t.size = 32
 t2 : t.getD 2 undef = ptr B
 t3 : t.getD 3 undef = ptr (B + 1)
 fr : Fr w0 w
 box : w.heap[B]? = some (.cells (sal p b l c off grp As ns cs0 Aa na ca) 36 (0, 0))
 box2 : w.heap[B + 1]? = some (.cells #[.int .i64 x.f0, .int .i64 x.f1, .int .i64 x.f2] 39 (0, 0))
 facts : ∀ j ∈ done, Fact27 p b l c off grp As ns cs0 Aa na ca streets adv x s1 s0 j (t.getD (dst27 j) undef) w
theorem dst27_inj {i j : Nat} (hi : i ≤ 10) (hj : j ≤ 10) (h : dst27 i = dst27 j) : i = j := by
 have : ∀ i : _root_.Fin 11, ∀ j : _root_.Fin 11, dst27 i.1 = dst27 j.1 → i.1 = j.1 := by decide
 exact this ⟨i, by omega⟩ ⟨j, by omega⟩ h
theorem dst27_ok {i : Nat} (hi : i ≤ 10) : dst27 i < 32 ∧ dst27 i ≠ 2 ∧ dst27 i ≠ 3 := by
 have : ∀ i : _root_.Fin 11, dst27 i.1 < 32 ∧ dst27 i.1 ≠ 2 ∧ dst27 i.1 ≠ 3 := by decide
 exact this ⟨i, by omega⟩
theorem Inv27.next {done : List Nat} {t : Array Value} {w w' : World} {v : Value} {j : Nat} (h : Inv27 w0 p b l c off grp As ns cs0 Aa na ca streets adv x s1 s0 B done t w) (hd : ∀ i ∈ done, i ≤ 10) (hj : j ≤ 10) (hn : j ∉ done) (hf : Fr w w')
  (hv : Fact27 p b l c off grp As ns cs0 Aa na ca streets adv x s1 s0 j v w') : Inv27 w0 p b l c off grp As ns cs0 Aa na ca streets adv x s1 s0 B (j :: done) (t.setIfInBounds (dst27 j) v) w' := by
 have hsz := h.size
 have ⟨h1, h2, h3⟩ := dst27_ok hj
 have hget : ∀ i, (t.setIfInBounds (dst27 j) v).getD i undef = if dst27 j = i then v else t.getD i undef := fun i => by
  rw [Array.getD_eq_getD_getElem?, Array.getD_eq_getD_getElem?, Array.getElem?_setIfInBounds]
  split
  ·rename_i e; rw [if_pos (by omega)]; rfl
  ·rfl
 refine ⟨by simp [hsz], by rw [hget, if_neg h2]; exact h.t2, by rw [hget, if_neg h3]; exact h.t3, h.fr.trans hf, (hf.same _ (blk_lt h.box)).trans h.box, (hf.same _ (blk_lt h.box2)).trans h.box2, fun i hi => ?_⟩
 rcases List.mem_cons.1 hi with rfl | hi
 ·rw [hget, if_pos rfl]
  exact hv
 ·rw [hget, if_neg (fun e => hn (by rw [dst27_inj hj (hd i hi) e]; exact hi))]
  exact (h.facts i hi).fr hf
noncomputable abbrev F27 (t : Array Value) (rest : List Nat) : Frame := (baseN 27).at { tmps := t, defers := [] } [.inRegion c27_9 rest, .code .ret]
set_option maxHeartbeats 4000000 in
theorem go27 {cs : List Frame} (hP : R.P = Try.prog) (hL : Lists w0 As ns cs0 Aa na ca streets adv) (hS : Sold w0 As ns Aa na streets adv) (hna : na + 1 ≤ 2000) (hx : 0 ≤ x.f0 ∧ x.f0 < ns) {k1 k0 : Nat} (hs1 : bold_sum.f k1 (billsOf p b l c off grp streets (adv ++ [x])) = some s1) (hs0 : bold_sum.f k0 (billsOf p b l c off grp streets adv) = some s0)
  (hK : ∀ fr w1, Out R.P 27 (fun v w => v = .tuple #[.int .i64 (wrap64 (s1 - s0)), .int .i64 0] ∧ Fr w0 w) fr w1 → OkFrame R.P fr → PlainW w1 → R.Runs fr cs w1) :
  ∀ (rest done : List Nat) (t : Array Value) (w : World), seq27 done rest = true → (∀ i ∈ done, i ≤ 10) → Inv27 w0 p b l c off grp As ns cs0 Aa na ca streets adv x s1 s0 B done t w → PlainW w → OkFrame R.P (F27 t rest) → R.Runs (F27 t rest) cs w := by
 intro rest
 induction rest with
 | nil =>
  intro done t w hq hd hI hp ok
  simp only [seq27, Bool.and_eq_true, List.contains_iff_mem] at hq
  have h9 := hI.facts 9 hq.1
  have h10 := hI.facts 10 hq.2
  refine Row.to ok rfl hp (fun τ d => ?_) fun fr w3 hx ok3 _ hp3 => hK fr w3 hx ok3 hp3
  rw [hP]
  refine To.regionEnd (To.ret Try.func27 rfl (results_tmp2 rfl _ _ _) ⟨?_, hI.fr.trans ⟨rfl, rfl, Nat.le_refl _, fun _ _ => rfl⟩⟩)
  show Value.tuple #[t.getD 4 undef, t.getD 5 undef] = _
  rw [show t.getD 4 undef = _ from h9, show t.getD 5 undef = _ from h10]
 | cons j rest ih =>
  intro done t w hq hd hI hp ok
  simp only [seq27, Bool.and_eq_true, decide_eq_true_eq, Bool.not_eq_true', List.all_eq_true] at hq
  obtain ⟨⟨⟨hj, hn⟩, hdeps⟩, hq⟩ := hq
  have hn : j ∉ done := by simpa using hn
  have hd' : ∀ i ∈ j :: done, i ≤ 10 := fun i hi => by
   rcases List.mem_cons.1 hi with rfl | hi
   ·exact hj
   ·exact hd i hi
  have hnext := fun (v : Value) (w' : World) (hf : Fr w w') (hv : Fact27 p b l c off grp As ns cs0 Aa na ca streets adv x s1 s0 j v w') (hp' : PlainW w') (ok' : OkFrame R.P (F27 (t.setIfInBounds (dst27 j) v) rest)) =>
   ih (j :: done) (t.setIfInBounds (dst27 j) v) w' hq hd' (hI.next hd hj hn hf hv) hp' ok'
  have hfact : ∀ i ∈ deps27 j, Fact27 p b l c off grp As ns cs0 Aa na ca streets adv x s1 s0 i (t.getD (dst27 i) undef) w := fun i hi => hI.facts i (by simpa using hdeps i hi)
  have hon : ∀ τ d, Fr w (w.on τ d) := fun τ d => ⟨rfl, rfl, Nat.le_refl _, fun _ _ => rfl⟩
  have e2 := hI.t2
  have e3 := hI.t3
  clear ih hdeps hq
  have hjs : j = 0 ∨ j = 1 ∨ j = 2 ∨ j = 3 ∨ j = 4 ∨ j = 5 ∨ j = 6 ∨ j = 7 ∨ j = 8 ∨ j = 9 ∨ j = 10 := by omega
  rcases hjs with rfl | rfl | rfl | rfl | rfl | rfl | rfl | rfl | rfl | rfl | rfl
  ·refine Row.loneOp (o := ⟨some 23, .load 36 (.tmp 2), 36, "bold.go:267", #[], none⟩) (N := fun v w' => v = .agg (sal p b l c off grp As ns cs0 Aa na ca) ∧ Fr w w') ok rfl hp rfl rfl (fun τ d K hKK => ?_) (fun v w' ⟨hv, hf⟩ hp' ok' => hnext v w' hf hv hp' ok')
   rw [hP]
   exact wp_load_row 36 (.tmp 2) rfl B e2 36 _ (0, 0) _ hI.box Try.underlying36 rfl i36 (hKK _ _ ⟨rfl, hon τ d⟩)
  ·refine Row.loneOp (o := ⟨some 24, .load 39 (.tmp 3), 39, "bold.go:267", #[], none⟩) (N := fun v w' => v = .agg #[.int .i64 x.f0, .int .i64 x.f1, .int .i64 x.f2] ∧ Fr w w') ok rfl hp rfl rfl (fun τ d K hKK => ?_) (fun v w' ⟨hv, hf⟩ hp' ok' => hnext v w' hf hv hp' ok')
   rw [hP]
   exact wp_load_row 39 (.tmp 3) rfl (B + 1) e3 39 _ (0, 0) _ hI.box2 Try.underlying39 rfl (show (Try.prog.info? 39).map (·.size) = some 3 by kernel_rfl) (hKK _ _ ⟨rfl, hon τ d⟩)
  ·have f0 : t.getD 23 undef = _ := hfact 0 (by decide)
   have f1 : t.getD 24 undef = _ := hfact 1 (by decide)
   refine Row.loneOp (o := ⟨some 25, .call ⟨.value (.func 73), #[.tmp 23, .tmp 24], #[36, 39]⟩, 36, "bold.go:267", #[⟨0, .data⟩, ⟨1, .data⟩], none⟩) (N := fun v w' => Fact27 p b l c off grp As ns cs0 Aa na ca streets adv x s1 s0 2 v w' ∧ Fr w w') ok rfl hp rfl rfl (fun τ d K hKK => ?_) (fun v w' ⟨hv, hf⟩ hp' ok' => hnext v w' hf hv hp' ok')
   rw [hP]
   have hc := calls73 (p := p) (b := b) (l := l) (c := c) (off := off) (grp := grp) (cs0 := cs0) ((hS.fr hI.fr).on τ d) hL.capa x
   go_simp
   refine Calls.mono hc ?_
   rintro e w' ⟨v, rfl, A2, c2, rfl, hc2, hk2, hb⟩
   exact hKK _ _ ⟨⟨A2, c2, rfl, hc2, hk2⟩, (hon τ d).trans (Fr.of_below hb)⟩
  ·obtain ⟨A2, c2, h2, hc2, hk2⟩ := hfact 2 (by decide)
   have h2 : t.getD 25 undef = _ := h2
   have hS2 : Sold w As ns A2 (na + 1) streets (adv ++ [x]) := by
    have h := hS.fr hI.fr
    refine ⟨h.st, hk2, h.lens, by rw [List.length_append, List.length_singleton, h.lena], h.maxs, hna, fun y hy => ?_⟩
    rcases List.mem_append.1 hy with hy | hy
    ·exact h.who y hy
    ·obtain rfl : y = x := by simpa using hy
     exact hx
   refine Row.callOp (o := ⟨some 26, .call ⟨.value (.func 72), #[.tmp 25], #[36]⟩, 22, "bold.go:267", #[⟨2, .data⟩, ⟨2, .chain⟩], none⟩) ok rfl hp rfl rfl (fun w => ?_) (row72 (p := p) (b := b) (l := l) (c := c) (off := off) (grp := grp) (ca := c2) (cs0 := cs0) hP hS2) fun v w2 ⟨hv, hf⟩ hp2 ok2 => hnext v w2 hf hv.at hp2 ok2
   rw [hP]
   exact run_call rfl (show Try.prog.funcs[72]? = some Try.f72 by kernel_rfl) rfl rfl (by simp [Act.eval, h2])
  ·obtain ⟨g, h3, hg⟩ := hfact 3 (by decide)
   have h3 : t.getD 26 undef = _ := h3
   refine Row.loneOp (o := ⟨some 27, .call ⟨.value (.func 71), #[.tmp 26], #[22]⟩, 3, "bold.go:267", #[⟨3, .data⟩, ⟨3, .chain⟩], none⟩) (N := fun v w' => v = .int .i64 s1 ∧ Fr w w') ok rfl hp rfl rfl (fun τ d K hKK => ?_) (fun v w' ⟨hv, hf⟩ hp' ok' => hnext v w' hf hv hp' ok')
   rw [hP]
   have hl : (billsOf p b l c off grp streets (adv ++ [x])).length ≤ 400 := by rw [billsOf_length, hS.lens]; exact hS.maxs
   have hc := bold_sum.calls k1 (some ⟨g, 0, none⟩) (billsOf p b l c off grp streets (adv ++ [x])).length (billsOf p b l c off grp streets (adv ++ [x])) s1 (w.on τ d) (kint_fr (kd_nums hg hl) (hon τ d)) (Nat.le_refl _) hs1
   generalize (billsOf p b l c off grp streets (adv ++ [x])).length = n at h3 hc
   go_simp
   refine Calls.mono hc ?_
   rintro e w' ⟨rfl, hb⟩
   exact hKK _ _ ⟨rfl, (hon τ d).trans (Fr.of_below hb.below)⟩
  ·refine Row.loneOp (o := ⟨some 28, .load 36 (.tmp 2), 36, "bold.go:267", #[], none⟩) (N := fun v w' => v = .agg (sal p b l c off grp As ns cs0 Aa na ca) ∧ Fr w w') ok rfl hp rfl rfl (fun τ d K hKK => ?_) (fun v w' ⟨hv, hf⟩ hp' ok' => hnext v w' hf hv hp' ok')
   rw [hP]
   exact wp_load_row 36 (.tmp 2) rfl B e2 36 _ (0, 0) _ hI.box Try.underlying36 rfl i36 (hKK _ _ ⟨rfl, hon τ d⟩)
  ·have h5 : t.getD 28 undef = _ := hfact 5 (by decide)
   refine Row.callOp (o := ⟨some 29, .call ⟨.value (.func 72), #[.tmp 28], #[36]⟩, 22, "bold.go:267", #[⟨5, .data⟩, ⟨4, .chain⟩], none⟩) ok rfl hp rfl rfl (fun w => ?_) (row72 (p := p) (b := b) (l := l) (c := c) (off := off) (grp := grp) (ca := ca) (cs0 := cs0) hP (hS.fr hI.fr)) fun v w2 ⟨hv, hf⟩ hp2 ok2 => hnext v w2 hf hv.at hp2 ok2
   rw [hP]
   exact run_call rfl (show Try.prog.funcs[72]? = some Try.f72 by kernel_rfl) rfl rfl (by simp [Act.eval, h5])
  ·obtain ⟨g, h3, hg⟩ := hfact 6 (by decide)
   have h3 : t.getD 29 undef = _ := h3
   refine Row.loneOp (o := ⟨some 30, .call ⟨.value (.func 71), #[.tmp 29], #[22]⟩, 3, "bold.go:267", #[⟨6, .data⟩, ⟨6, .chain⟩], none⟩) (N := fun v w' => v = .int .i64 s0 ∧ Fr w w') ok rfl hp rfl rfl (fun τ d K hKK => ?_) (fun v w' ⟨hv, hf⟩ hp' ok' => hnext v w' hf hv hp' ok')
   rw [hP]
   have hl : (billsOf p b l c off grp streets adv).length ≤ 400 := by rw [billsOf_length, hS.lens]; exact hS.maxs
   have hc := bold_sum.calls k0 (some ⟨g, 0, none⟩) (billsOf p b l c off grp streets adv).length (billsOf p b l c off grp streets adv) s0 (w.on τ d) (kint_fr (kd_nums hg hl) (hon τ d)) (Nat.le_refl _) hs0
   generalize (billsOf p b l c off grp streets adv).length = n at h3 hc
   go_simp
   refine Calls.mono hc ?_
   rintro e w' ⟨rfl, hb⟩
   exact hKK _ _ ⟨rfl, (hon τ d).trans (Fr.of_below hb.below)⟩
  ·have h4 : t.getD 27 undef = _ := hfact 4 (by decide)
   have h7 : t.getD 30 undef = _ := hfact 7 (by decide)
   refine Row.loneOp (o := ⟨some 31, .binOp .sub 3 (.tmp 27) (.tmp 30) 3, 3, "bold.go:267", #[⟨4, .data⟩, ⟨7, .data⟩], none⟩) (N := fun v w' => v = .int .i64 (wrap64 (s1 - s0)) ∧ Fr w w') ok rfl hp rfl rfl (fun τ d K hKK => ?_) (fun v w' ⟨hv, hf⟩ hp' ok' => hnext v w' hf hv hp' ok')
   rw [hP]
   go_simp
   exact hKK _ _ ⟨by rw [i64w], hon τ d⟩
  ·have h8 : t.getD 31 undef = _ := hfact 8 (by decide)
   refine Row.loneOp (o := ⟨some 4, .assign (.tmp 31), 3, "bold.go:267", #[⟨8, .data⟩, ⟨7, .chain⟩, ⟨0, .phase⟩, ⟨1, .phase⟩, ⟨2, .phase⟩, ⟨3, .phase⟩, ⟨4, .phase⟩, ⟨5, .phase⟩, ⟨6, .phase⟩, ⟨7, .phase⟩, ⟨8, .phase⟩], none⟩) (N := fun v w' => v = .int .i64 (wrap64 (s1 - s0)) ∧ Fr w w') ok rfl hp rfl rfl (fun τ d K hKK => ?_) (fun v w' ⟨hv, hf⟩ hp' ok' => hnext v w' hf hv hp' ok')
   rw [hP]
   go_simp
   exact hKK _ _ ⟨rfl, hon τ d⟩
  ·refine Row.loneOp (o := ⟨some 5, .assign (.const (.int .i64 0)), 27, "bold.go:267", #[⟨9, .chain⟩, ⟨0, .phase⟩, ⟨1, .phase⟩, ⟨2, .phase⟩, ⟨3, .phase⟩, ⟨4, .phase⟩, ⟨5, .phase⟩, ⟨6, .phase⟩, ⟨7, .phase⟩, ⟨8, .phase⟩, ⟨9, .phase⟩], none⟩) (N := fun v w' => v = .int .i64 0 ∧ Fr w w') ok rfl hp rfl rfl (fun τ d K hKK => ?_) (fun v w' ⟨hv, hf⟩ hp' ok' => hnext v w' hf hv hp' ok')
   rw [hP]
   go_simp
   exact hKK _ _ ⟨rfl, hon τ d⟩
theorem Lists.adErr (h : Lists w0 As ns cs0 Aa na ca streets adv) {e : Int} (hc : adErr ns x = e) :
  Calls Try.prog 70 #[.agg (sal p b l c off grp As ns cs0 Aa na ca), .agg #[.int .i64 x.f0, .int .i64 x.f1, .int .i64 x.f2]] w0 fun e' w' => e' = .returned (.int .i64 e) ∧ Below w0.heap.size w0 w' := by
 subst hc
 exact (calls70 x (by have := Kd.C_max h.st; omega)).mono fun e w' ⟨v, h1, h2, h3⟩ => ⟨by rw [h1, h2], h3⟩
set_option maxHeartbeats 4000000 in
theorem head27 {cs : List Frame} {r e : Int} (hL : Lists w0 As ns cs0 Aa na ca streets adv) (hc : saleErr p b l c off grp streets adv = r) (he : r = 0 → adErr ns x = e) :
  To Try.prog cs (fun fr w => (Out Try.prog 27 (fun v w => ∃ n m, worthOf r e na (wrap64 (s1 - s0)) = (n, m) ∧ v = .tuple #[.int .i64 n, .int .i64 m] ∧ Fr w0 w) fr w) ∨
   ((r = 0 ∧ e = 0 ∧ na < 8) ∧ At (baseN 27) [.code (.region 9 c27_9 true), .code .ret] (fun a w => a.defers = [] ∧ Inv27 w0 p b l c off grp As ns cs0 Aa na ca streets adv x s1 s0 w0.heap.size [] a.tmps w) fr w))
   ((baseN 27).at { tmps := #[.agg (sal p b l c off grp As ns cs0 Aa na ca), .agg #[.int .i64 x.f0, .int .i64 x.f1, .int .i64 x.f2], undef, undef, undef, undef, undef, undef, undef, undef, undef, undef, undef, undef, undef, undef, undef, undef, undef, undef, undef, undef, undef, undef, undef, undef, undef, undef, undef, undef, undef, undef], defers := [] } [.code b27]) w0 := by
 unfold b27
 refine To.seq (To.code fun Kc hKc => ?_)
 unfold c27_0
 go_wp2
 have hbox := heap_alloc_new w0 (.cells (sal p b l c off grp As ns cs0 Aa na ca) 36)
 have hbox := (Below.heap_alloc (w0.alloc (.cells (sal p b l c off grp As ns cs0 Aa na ca) 36)) (.cells #[.int .i64 x.f0, .int .i64 x.f1, .int .i64 x.f2] 39) w0.heap.size (by simp)).trans hbox
 have hbox2 := heap_alloc_new (w0.alloc (.cells (sal p b l c off grp As ns cs0 Aa na ca) 36)) (.cells #[.int .i64 x.f0, .int .i64 x.f1, .int .i64 x.f2] 39)
 have hbw : Below w0.heap.size w0 ((w0.alloc (.cells (sal p b l c off grp As ns cs0 Aa na ca) 36)).alloc (.cells #[.int .i64 x.f0, .int .i64 x.f1, .int .i64 x.f2] 39)) := ((Below.refl _ _).alloc (Nat.le_refl _) _).alloc (by simp) _
 have hs : (w0.alloc (.cells (sal p b l c off grp As ns cs0 Aa na ca) 36)).heap.size = w0.heap.size + 1 := by simp
 rw [hs] at hbox2
 generalize ((w0.alloc (.cells (sal p b l c off grp As ns cs0 Aa na ca) 36)).alloc (.cells #[.int .i64 x.f0, .int .i64 x.f1, .int .i64 x.f2] 39)) = W at hbox hbox2 hbw ⊢
 refine hKc _ _ (To.seq (To.seq (To.code fun Kc hKc => ?_)))
 unfold c27_1
 go_wp2_with (first | refine wpList_load_row rfl 36 (.tmp 2) rfl w0.heap.size rfl 36 _ (0, 0) _ hbox Try.underlying36 rfl i36 ?_ | (go_at_call 69; refine Calls.mono ((hL.below hbw).check hc) ?_; rintro e w' ⟨rfl, hb⟩; dsimp only))
 replace hbox := (hb.block _ (blk_lt hbox)).trans hbox
 replace hbox2 := (hb.block _ (blk_lt hbox2)).trans hbox2
 replace hbw := hbw.trans (hb.mono hbw.size)
 clear hb W
 refine hKc _ _ (To.seq (To.code fun Kc hKc => ?_))
 unfold c27_2
 go_wp2
 by_cases hr : r = 0
 case neg =>
  refine hKc _ _ (To.yes (show Value.bool (r != 0) = .bool true by simp [hr]) (To.seq (To.code fun Kc hKc => ?_)))
  unfold c27_3
  go_wp2
  refine hKc _ _ ((To.ret (R := fun v w => ∃ n m, worthOf r e na (wrap64 (s1 - s0)) = (n, m) ∧ v = .tuple #[.int .i64 n, .int .i64 m] ∧ Fr w0 w) Try.func27 rfl (results_tmp2 rfl _ _ _) ⟨0, r, by simp [worthOf, hr], rfl, Fr.of_below hbw⟩).mono fun _ _ h => .inl h)
 subst hr
 refine hKc _ _ (To.no rfl (To.skip (To.seq (To.seq (To.code fun Kc hKc => ?_)))))
 unfold c27_4
 have i39 : (Try.prog.info? 39).map (·.size) = some 3 := by kernel_rfl
 go_wp2_with (first | refine wpList_load_row rfl 36 (.tmp 2) rfl w0.heap.size rfl 36 _ (0, 0) _ hbox Try.underlying36 rfl i36 ?_ | refine wpList_load_row rfl 39 (.tmp 3) rfl (w0.heap.size + 1) rfl 39 _ (0, 0) _ hbox2 Try.underlying39 rfl i39 ?_ | (go_at_call 70; refine Calls.mono ((hL.below hbw).adErr (he rfl)) ?_; rintro e w' ⟨rfl, hb⟩; dsimp only))
 replace hbox := (hb.block _ (blk_lt hbox)).trans hbox
 replace hbox2 := (hb.block _ (blk_lt hbox2)).trans hbox2
 replace hbw := hbw.trans (hb.mono hbw.size)
 clear hb
 refine hKc _ _ (To.seq (To.code fun Kc hKc => ?_))
 unfold c27_5
 go_wp2
 by_cases he0 : e = 0
 case neg =>
  refine hKc _ _ (To.yes (show Value.bool (e != 0) = .bool true by simp [he0]) (To.seq (To.code fun Kc hKc => ?_)))
  unfold c27_6
  go_wp2
  refine hKc _ _ ((To.ret (R := fun v w => ∃ n m, worthOf 0 e na (wrap64 (s1 - s0)) = (n, m) ∧ v = .tuple #[.int .i64 n, .int .i64 m] ∧ Fr w0 w) Try.func27 rfl (results_tmp2 rfl _ _ _) ⟨0, e, by simp [worthOf, he0], rfl, Fr.of_below hbw⟩).mono fun _ _ h => .inl h)
 subst he0
 refine hKc _ _ (To.no rfl (To.skip (To.seq (To.seq (To.code fun Kc hKc => ?_)))))
 have hc7 := blk_cell hbox 7
 unfold c27_7
 go_wp2
 by_cases h8 : 8 ≤ na
 case pos =>
  refine hKc _ _ (To.yes (show Value.bool (decide ((8 : Int) ≤ (na : Int))) = .bool true by rw [decide_eq_true (by omega)]) (To.seq (To.code fun Kc hKc => ?_)))
  unfold c27_8
  go_wp2
  refine hKc _ _ ((To.ret (R := fun v w => ∃ n m, worthOf 0 0 na (wrap64 (s1 - s0)) = (n, m) ∧ v = .tuple #[.int .i64 n, .int .i64 m] ∧ Fr w0 w) Try.func27 rfl (results_tmp2 rfl _ _ _) ⟨0, 6, by simp [worthOf, h8], rfl, Fr.of_below hbw⟩).mono fun _ _ h => .inl h)
 refine hKc _ _ (To.no (show Value.bool (decide ((8 : Int) ≤ (na : Int))) = .bool false by rw [decide_eq_false (by omega)]) (To.skip (To.seq (To.here (.inr ⟨⟨trivial, trivial, by omega⟩, _, rfl, rfl, ?_⟩)))))
 exact ⟨rfl, rfl, rfl, Fr.of_below hbw, hbox, hbox2, fun j hj => by cases hj⟩
theorem row27 (hP : R.P = Try.prog) (hL : Lists w0 As ns cs0 Aa na ca streets adv) {k1 k0 : Nat} {r e : Int} (hc : saleErr p b l c off grp streets adv = r) (he : r = 0 → adErr ns x = e)
  (hS : r = 0 → e = 0 → na < 8 → Sold w0 As ns Aa na streets adv ∧ (0 ≤ x.f0 ∧ x.f0 < ns) ∧ bold_sum.f k1 (billsOf p b l c off grp streets (adv ++ [x])) = some s1 ∧ bold_sum.f k0 (billsOf p b l c off grp streets adv) = some s0) :
  R.Calls 27 #[.agg (sal p b l c off grp As ns cs0 Aa na ca), .agg #[.int .i64 x.f0, .int .i64 x.f1, .int .i64 x.f2]] w0 fun v w => ∃ n m, worthOf r e na (wrap64 (s1 - s0)) = (n, m) ∧ v = .tuple #[.int .i64 n, .int .i64 m] ∧ Fr w0 w := by
 refine Row.calls_from (tmps := #[.agg (sal p b l c off grp As ns cs0 Aa na ca), .agg #[.int .i64 x.f0, .int .i64 x.f1, .int .i64 x.f2], undef, undef, undef, undef, undef, undef, undef, undef, undef, undef, undef, undef, undef, undef, undef, undef, undef, undef, undef, undef, undef, undef, undef, undef, undef, undef, undef, undef, undef, undef]) (fn := Try.f27) (by rw [hP]; kernel_rfl) body27 (by kernel_rfl) fun hp ok cs hK => ?_
 have hon : ∀ τ d, Fr w0 (w0.on τ d) := fun τ d => ⟨rfl, rfl, Nat.le_refl _, fun _ _ => rfl⟩
 refine Row.to (X := fun fr w => (Out Try.prog 27 (fun v w => ∃ n m, worthOf r e na (wrap64 (s1 - s0)) = (n, m) ∧ v = .tuple #[.int .i64 n, .int .i64 m] ∧ Fr w0 w) fr w) ∨
   ((r = 0 ∧ e = 0 ∧ na < 8) ∧ At (baseN 27) [.code (.region 9 c27_9 true), .code .ret] (fun a w => a.defers = [] ∧ Inv27 w0 p b l c off grp As ns cs0 Aa na ca streets adv x s1 s0 w0.heap.size [] a.tmps w) fr w)) ok rfl hp (fun τ d => ?_) ?_
 ·rw [hP]
  refine (head27 (s1 := s1) (s0 := s0) (hL.on τ d) hc he).mono fun fr w h => ?_
  rcases h with ⟨h1, v, h2, n, m, h3, h4, h5⟩ | ⟨h1, a, h2, h3, hI⟩
  ·exact .inl ⟨h1, v, h2, n, m, h3, h4, Fr.on h5⟩
  ·exact .inr ⟨h1, a, h2, h3, hI.size, hI.t2, hI.t3, Fr.on hI.fr, hI.box, hI.box2, hI.facts⟩
 rintro fr w1 (⟨h1, v, h2, h3⟩ | ⟨⟨rfl, rfl, h8⟩, a, rfl, ha, hI⟩) ok1 hk1 hp1
 ·exact hK fr w1 ⟨h1, v, by rw [hP]; exact h2, h3⟩ ok1 hp1
 ·obtain ⟨hS, hx, hs1, hs0⟩ := hS rfl rfl h8
  obtain ⟨t, ds⟩ := a
  obtain rfl : ds = [] := ha
  have hall : (orders .any c27_9 c27_9.size (Array.replicate c27_9.size false)).all (seq27 []) = true := by kernel_rfl
  refine Row.drawn ok1 rfl hp1 (by rw [hP]; kernel_rfl) rfl fun l hl ok2 => ?_
  refine go27 hP hL hS (by omega) hx hs1 hs0 (fun fr w2 ⟨h1, v, h2, h3, h4⟩ ok3 hp3 => hK fr w2 ⟨h1, v, h2, _, _, ?_, h3, h4⟩ ok3 hp3) l [] t w1 (List.all_eq_true.1 hall l hl) (fun i hi => by cases hi) hI hp1 ok2
  unfold worthOf
  rw [if_neg (by simp), if_neg (by simp), if_neg (by omega)]
end
end Go.Ov
