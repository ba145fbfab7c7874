/- Part 2 of a proof: no statement of its own. -/
import Derived.Test.YtfgedbakbljgfaaProg
import Derived.Test.YtfgedbakbljgfaaB1
import Derived.ArgAppend
import Derived.Below
import Derived.BigQuiet
import Derived.Conc.LeavingOf
import Derived.Deep.AppendLies
import Derived.Deep.CutBlock
import Derived.Deep.DeepCutAuto
import Derived.Deep.Draws
import Derived.Deep.LoopGhost
import Derived.Deep.OwnRows
import Derived.Deep.QuietTactic
import Derived.Deep.RegionHeld3
import Derived.KernelRfl
import Derived.Laws.BitsLemmas
import Derived.Laws.BytesArg
import Derived.Laws.EntriesVeiled
import Derived.Laws.IdiomCopy
import Derived.Laws.MakeOwn
import Derived.Laws.OwnMore
import Derived.Laws.Rows
import Derived.Laws.Slices
import Derived.Laws.StructEq
import Derived.Lib.AppendStr
import Derived.Lib.ConvBytes
import Derived.Maps.AppendAt
import Derived.Maps.OwnSet
import Derived.Maps.RangeWalk
import Derived.Orders
import Derived.OrdersHeld
import Derived.OwnWalk
import Derived.RegionTactic
import Derived.RowKit
import Derived.RowKit3
import Derived.Tactics
import Derived.WalkKit
import Derived.WideLaws
set_option linter.unusedVariables false
set_option linter.unusedSimpArgs false
set_option maxRecDepth 20000
namespace Go.Proofs.YtfgedbakbljgfaaW.PrintWords
open Go.RowKit
namespace Kd
def raw (sz : Nat) : Kd (List Value) where
 sz := sz
 E := []
 K := fun _ x cs => cs = x ∧ cs.length = sz ∧ ∀ u ∈ cs, u.oneCell' = true
 M := fun _ _ _ x cs => cs = x ∧ cs.length = sz ∧ ∀ u ∈ cs, u.oneCell' = true
 K_len := fun h => h.2.1
 K_one := fun h => h.2.2
 K_below := fun _ h => h
 K_of_M := fun h => h
 M_mono := fun _ h => h
 M_bound := fun h => h
 M_move := fun _ h => h
 M_lower := fun _ h => h
section
variable {α β : Type} {d : Kd α} {d' : Kd β} {e e' : Nat} {w w1 W : World} {base b : Nat} {ok ok' okv oku : Nat → Prop} {u v : Value} {xs : List α} {ys : List β}
theorem R_tight (hE : d.E = []) (h : d.R e w base ok v xs) : d.R e w base (fun k => some k = v.ownBlock) v xs := by
 obtain ⟨h0, inner, ho, hr⟩ := h
 refine ⟨fun k hk => hk.symm, inner, ho, hr.imp_ (fun p c hp => d.M_mono (fun k hk => ?_) (d.M_bound hp))⟩
 obtain ⟨_, _, _, q, hq, _⟩ := hk
 rw [hE] at hq
 cases hq
end
end Kd
namespace Kd
end Kd
namespace Kd
end Kd
namespace Kd
end Kd
namespace Kd
end Kd
def Foot (P : World → Prop) (W : World) (ok : Nat → Prop) : Prop := ∀ W' : World, (∀ k, ok k → k < W.heap.size → W'.heap[k]? = W.heap[k]?) → P W'
theorem heap_lt {W W1 : World} {k : Nat} (h : W1.heap[k]? = W.heap[k]?) (hlt : k < W.heap.size) : k < W1.heap.size := by
 rw [Array.getElem?_eq_getElem hlt] at h
 exact (Array.getElem?_eq_some_iff.1 h).1
namespace Foot
variable {P Q : World → Prop} {W W1 : World} {ok ok' : Nat → Prop}
theorem now (h : Foot P W ok) : P W := h W (fun _ _ _ => rfl)
theorem mono (h : Foot P W ok) (hok : ∀ k, ok k → ok' k) : Foot P W ok' := fun W' hW => h W' (fun k hk hlt => hW k (hok k hk) hlt)
theorem bound (h : Foot P W ok) : Foot P W (fun k => ok k ∧ k < W.heap.size) := fun W' hW => h W' (fun k hk hlt => hW k ⟨hk, hlt⟩ hlt)
theorem step (h : Foot P W ok) (hm : ∀ k, ok k → k < W.heap.size → W1.heap[k]? = W.heap[k]?) : Foot P W1 ok := fun W' hW => h W' (fun k hk hlt => (hW k hk (heap_lt (hm k hk hlt) hlt)).trans (hm k hk hlt))
end Foot
namespace Kd
def F {α : Type} (d : Kd α) (W : World) (ok : Nat → Prop) (A : Option Addr) (n : Nat) (xs : List α) : Prop := Foot (fun W => d.C W A n xs) W ok
def FK {α : Type} (d : Kd α) (W : World) (ok : Nat → Prop) (x : α) (c : List Value) : Prop := Foot (fun W => d.K W x c) W ok
section
variable {α β : Type} {d : Kd α} {e base n n' cc g N : Nat} {ok ok' okp S : Nat → Prop} {w w0 w1 W W1 : World} {A A' : Option Addr} {u v v1 : Value} {xs : List α} {xs' : List β} {d' : Kd β} {x : α} {c : List Value}
theorem F_nil (d : Kd α) (W : World) (ok : Nat → Prop) : F d W ok none ([] : List α).length [] := fun W' _ => C_nil d W'
theorem R_F (h : d.R e W base ok (.slice A n cc) xs) : F d W ok A n xs := fun W' hW => by
 have h2 := R_reads' (R_step h hW)
 rw [h2.1]
 exact h2.2.2
theorem FK_now (h : FK d W ok x c) : d.K W x c := Foot.now h
theorem FK_mono (h : FK d W ok x c) (hok : ∀ k, ok k → ok' k) : FK d W ok' x c := Foot.mono h hok
theorem FK_bound (h : FK d W ok x c) : FK d W (fun k => ok k ∧ k < W.heap.size) x c := Foot.bound h
theorem FK_step (h : FK d W ok x c) (hm : ∀ k, ok k → k < W.heap.size → W1.heap[k]? = W.heap[k]?) : FK d W1 ok x c := Foot.step h hm
end
end Kd
namespace Kd
def chunks (sz : Nat) (n : Nat) (inner : List Value) : List (List Value) := (List.range n).map fun j => (inner.drop (j * sz)).take sz
theorem chunks_length (sz n : Nat) (inner : List Value) : (chunks sz n inner).length = n := by simp [chunks]
theorem chunks_at {sz n : Nat} {inner : List Value} {j : Nat} (hj : j < n) : (chunks sz n inner)[j]? = some ((inner.drop (j * sz)).take sz) := by simp [chunks, hj]
theorem chunks_get {sz n : Nat} {inner : List Value} {j : Nat} {c : List Value} (h : (chunks sz n inner)[j]? = some c) : c = (inner.drop (j * sz)).take sz := by
 have hj : j < n := by have := (List.getElem?_eq_some_iff.1 h).1; rwa [chunks_length] at this
 rw [chunks_at hj] at h
 injection h with h
 exact h.symm
theorem reps_raw {α : Type} {Rr : α → List Value → Prop} {sz : Nat} {xs : List α} {inner : List Value} (h : Reps Rr sz xs inner) (hR : ∀ x c, Rr x c → c.length = sz ∧ ∀ u ∈ c, u.oneCell' = true) : Reps (fun x cs => cs = x ∧ cs.length = sz ∧ ∀ u ∈ cs, u.oneCell' = true) sz (chunks sz xs.length inner) inner := by
 refine ⟨by rw [chunks_length]; exact h.1, fun j p hj => ?_⟩
 have hjl : j < xs.length := by have := (List.getElem?_eq_some_iff.1 hj).1; rwa [chunks_length] at this
 have hp := chunks_get hj
 exact ⟨hp.symm, hR _ _ (h.2 j _ (List.getElem?_eq_getElem hjl))⟩
section
variable {α : Type} {d : Kd α} {e base n cc g : Nat} {ok ok' okp S : Nat → Prop} {w w1 W W1 : World} {A : Option Addr} {u v v1 : Value} {xs : List α} {x : α} {c : List Value}
def N {α : Type} (d : Kd α) (e : Nat) (w : World) (base : Nat) (ok : Nat → Prop) (v : Value) (xs : List α) : Prop :=
 (∀ k, v.ownBlock = some k → ok k) ∧ ∃ rows : List (List Value), rows.length = xs.length ∧ (raw d.sz).R e w base (fun k => some k = v.ownBlock) v rows ∧ ∀ (j : Nat) (x : α) (c : List Value), xs[j]? = some x → rows[j]? = some c → FK d w (fun k => ok k ∧ some k ≠ v.ownBlock) x c
theorem raw_tight {sz : Nat} {rows : List (List Value)} (h : (raw sz).R e w base ok v rows) : (raw sz).R e w base (fun k => some k = v.ownBlock) v rows := R_tight rfl h
theorem N_mono (h : N d e w base ok v xs) (hok : ∀ k, ok k → ok' k) : N d e w base ok' v xs := by
 obtain ⟨h0, rows, hl, hR, hf⟩ := h
 exact ⟨fun k hk => hok k (h0 k hk), rows, hl, hR, fun j x c hx hc => FK_mono (hf j x c hx hc) (fun k hk => ⟨hok k hk.1, hk.2⟩)⟩
theorem N_lower {base' : Nat} (h : N d e w base ok v xs) (hb : base' ≤ base) : N d e w base' ok v xs := by
 obtain ⟨h0, rows, hl, hR, hf⟩ := h
 exact ⟨h0, rows, hl, R_lower hR hb, hf⟩
theorem N_step (h : N d e w base ok v xs) (hm : ∀ k, ok k → k < w.heap.size → w1.heap[k]? = w.heap[k]?) : N d e w1 base ok v xs := by
 obtain ⟨h0, rows, hl, hR, hf⟩ := h
 exact ⟨h0, rows, hl, R_step hR (fun k hk hlt => hm k (h0 k hk.symm) hlt), fun j x c hx hc => FK_step (hf j x c hx hc) (fun k hk hlt => hm k hk.1 hlt)⟩
theorem N_far (h : N d e w base ok v xs) {p : Addr} (hok : ∀ k, ok k → k ≠ p.block) (u : Value) : N d e (w.setCell p u) base ok v xs := N_step h (fun k ho _ => Below.heap_setCell w p u k (hok k ho))
theorem N_slice (h : N d e w base ok v xs) : ∃ A c, v = .slice A xs.length c := by
 obtain ⟨_, rows, hl, hR, _⟩ := h
 obtain ⟨A, c, he⟩ := R_slice hR
 exact ⟨A, c, by rw [he, hl]⟩
theorem N_reads' {n c : Nat} (h : N d e w base ok (.slice A n c) xs) : n = xs.length ∧ n ≤ c ∧ d.C w A xs.length xs := by
 obtain ⟨_, rows, hl, hR, hf⟩ := h
 obtain ⟨hn, hc, hC⟩ := R_reads' hR
 refine ⟨by omega, hc, ?_⟩
 rw [hl] at hC
 refine ⟨rfl, hC.2.1, fun hp => ?_⟩
 obtain ⟨ad, he, hcell⟩ := hC.2.2 hp
 refine ⟨ad, he, fun j p hj => ?_⟩
 have hjl : j < rows.length := by have := (List.getElem?_eq_some_iff.1 hj).1; omega
 obtain ⟨c', hcl, hK, hcc⟩ := hcell j _ (List.getElem?_eq_getElem hjl)
 have hk := FK_now (hf j p _ hj (List.getElem?_eq_getElem hjl))
 refine ⟨c', hcl, ?_, hcc⟩
 rw [show c' = rows[j] from hK.1]
 exact hk
theorem N_reads (h : N d e w base ok v xs) : ∃ A c, v = .slice A xs.length c ∧ xs.length ≤ c ∧ d.C w A xs.length xs := by
 obtain ⟨A, c, rfl⟩ := N_slice h
 exact ⟨A, c, rfl, (N_reads' h).2⟩
end
end Kd
namespace Kd
end Kd
namespace Kd
end Kd
end Go.Proofs.YtfgedbakbljgfaaW.PrintWords
namespace Go.Proofs.YtfgedbakbljgfaaW.PrintWords
theorem Reps.one {α : Type} {R : α → List Value → Prop} {ps : List α} {cs : List Value} {p : α} {v : Value} (hp : R p [v]) (h : Reps R 1 ps cs) : Reps R 1 (p :: ps) (v :: cs) := by
 refine ⟨by simp [h.1], fun j q hq => ?_⟩
 cases j with
 | zero =>
  simp only [List.getElem?_cons_zero, Option.some.injEq] at hq
  subst hq
  simpa using hp
 | succ j =>
  simp only [List.getElem?_cons_succ] at hq
  have h1 := h.2 j q hq
  simpa [Nat.mul_one] using h1
theorem Reps.front {α : Type} {R : α → List Value → Prop} {size : Nat} {ps : List α} {cs c all : List Value} {p : α} (hp : R p c) (hc : c.length = size) (h : Reps R size ps cs) (ha : c ++ cs = all) : Reps R size (p :: ps) all := by
 subst ha
 refine ⟨by rw [List.length_append, hc, h.1, List.length_cons, Nat.succ_mul, Nat.add_comm], fun j q hq => ?_⟩
 cases j with
 | zero =>
  simp only [List.getElem?_cons_zero, Option.some.injEq] at hq
  subst hq
  rw [Nat.zero_mul, List.drop_zero, List.take_append_of_le_length (by omega), List.take_of_length_le (by omega)]
  exact hp
 | succ j =>
  simp only [List.getElem?_cons_succ] at hq
  have h1 := h.2 j q hq
  rw [Nat.succ_mul, List.drop_append, List.drop_of_length_le (by rw [hc]; exact Nat.le_add_left _ _), List.nil_append, hc, Nat.add_sub_cancel]
  exact h1
theorem Reps.c2 {α : Type} {R : α → List Value → Prop} {ps : List α} {cs : List Value} {p : α} {va vb : Value} (hp : R p [va, vb]) (h : Reps R 2 ps cs) : Reps R 2 (p :: ps) (va :: vb :: cs) := Reps.front hp rfl h rfl
theorem Reps.c3 {α : Type} {R : α → List Value → Prop} {ps : List α} {cs : List Value} {p : α} {va vb vc : Value} (hp : R p [va, vb, vc]) (h : Reps R 3 ps cs) : Reps R 3 (p :: ps) (va :: vb :: vc :: cs) := Reps.front hp rfl h rfl
theorem Reps.c4 {α : Type} {R : α → List Value → Prop} {ps : List α} {cs : List Value} {p : α} {va vb vc vd : Value} (hp : R p [va, vb, vc, vd]) (h : Reps R 4 ps cs) : Reps R 4 (p :: ps) (va :: vb :: vc :: vd :: cs) := Reps.front hp rfl h rfl
end Go.Proofs.YtfgedbakbljgfaaW.PrintWords
namespace Go.Proofs.YtfgedbakbljgfaaW.PrintLast
end Go.Proofs.YtfgedbakbljgfaaW.PrintLast
namespace Go.Proofs.YtfgedbakbljgfaaW.PrintWords
open Go.RowKit
end Go.Proofs.YtfgedbakbljgfaaW.PrintWords
namespace Go.Proofs.YtfgedbakbljgfaaW.PrintLast
end Go.Proofs.YtfgedbakbljgfaaW.PrintLast
namespace Go.Proofs.YtfgedbakbljgfaaW.PrintWords
open Go.RowKit
namespace Kd
section
variable {α : Type} {d : Kd α} {e base n cap g : Nat} {ok ok' okp : Nat → Prop} {w w1 W : World} {v v1 : Value} {xs ys : List α}
theorem N_made {rows : List (List Value)} (hR : (raw d.sz).R e w1 base (fun k => k = W.heap.size) v1 rows) (hg : W.grownBy w1 none) (hat : ∃ b, v1.ownBlock = some b ∧ W.heap.size ≤ b) (hl : rows.length = xs.length) (hf : ∀ (j : Nat) (x : α) (c : List Value), xs[j]? = some x → rows[j]? = some c → FK d W okp x c)
  (hok : ∀ k, okp k → ok k) (hfresh : ok W.heap.size) : N d e w1 base ok v1 xs := by
 obtain ⟨b, hb, hle⟩ := hat
 refine ⟨fun k hk => by rw [hR.1 k hk]; exact hfresh, rows, hl, raw_tight hR, fun j x c hx hc => ?_⟩
 refine FK_mono (FK_step (FK_bound (hf j x c hx hc)) (fun k hk hlt => hg.block k hlt (by simp))) (fun k hk => ⟨hok k hk.1, fun he => ?_⟩)
 rw [hb] at he
 injection he with he
 have := hk.2
 omega
end
section
variable {P : Program} {ops : Array Oper} {rest : List Oper} {o : Oper} {a : Act} {Q : Exit → Act → World → Prop} {Kc : Act → World → Prop} {α : Type}
theorem N_lit (d : Kd α) {w0 W : World} (base e : Nat) (hgd : o.guard = none) {N' : Tmp} (_hd : o.dst = some N') {xs : List α} {inner : List Value} {ok okp : Nat → Prop}
  (hrun : (execOp a.eval o).run P W = .ok (.value (.slice (some ⟨W.heap.size, 0, none⟩) xs.length xs.length)) (W.alloc (.cells inner.toArray e)))
  (hrep : Reps (FK d W okp) d.sz xs inner) (hok : ∀ k, okp k → ok k) (hfresh : ok W.heap.size) (HB : Below base w0 W) (hbase : base ≤ W.heap.size) (hm : xs.length ≤ 9223372036854775807)
  (h : ∀ v1 w1, N d e w1 base ok v1 xs → Below base w0 w1 → W.grownBy w1 none → (∃ b, v1.ownBlock = some b ∧ W.heap.size ≤ b) → wpList P ops Q rest (a.put o.dst v1) w1) :
  wpList P ops Q (o :: rest) a W := by
 refine R_lit (raw d.sz) base e hgd _hd (xs := chunks d.sz xs.length inner) (inner := inner) (ok := fun k => k = W.heap.size) (okp := fun _ => False) (by rw [chunks_length]; exact hrun) (reps_raw hrep (fun y c hk => ⟨d.K_len (FK_now hk), d.K_one (FK_now hk)⟩)) (fun _ hk => hk.elim) rfl HB hbase (by rw [chunks_length]; exact hm) ?_
 intro v1 w1 hr hb hg hat
 exact h v1 w1 (N_made hr hg hat (chunks_length _ _ _) (fun j y c hy hc => by rw [chunks_get hc]; exact hrep.2 j y hy) hok hfresh) hb hg hat
end
end Kd
end Go.Proofs.YtfgedbakbljgfaaW.PrintWords
namespace Go.Proofs.YtfgedbakbljgfaaW.PrintMore
open Go.RowKit Go.Proofs.YtfgedbakbljgfaaW.PrintWords
namespace Kd
open Go.Proofs.YtfgedbakbljgfaaW.PrintWords.Kd
end Kd
namespace Kd
open Go.Proofs.YtfgedbakbljgfaaW.PrintWords.Kd
end Kd
theorem max2_int (k k' : IntKind) (x y : Int) : Builtin.max2 (.int k x) (.int k' y) = pure (.int k (if x < y then y else x)) := by simp only [Builtin.max2, gt_iff_lt]
theorem min2_int (k k' : IntKind) (x y : Int) : Builtin.min2 (.int k x) (.int k' y) = pure (.int k (if y < x then y else x)) := by simp only [Builtin.min2]
theorem max_two (ats : Array TypeId) (ty : TypeId) (a b : Value) : Builtin.max_ ats ty #[a, b] = (Builtin.max2 a b >>= fun s => pure s) := by simp only [Builtin.max_, List.foldlM_cons, List.foldlM_nil]
theorem min_two (ats : Array TypeId) (ty : TypeId) (a b : Value) : Builtin.min_ ats ty #[a, b] = (Builtin.min2 a b >>= fun s => pure s) := by simp only [Builtin.min_, List.foldlM_cons, List.foldlM_nil]
theorem max_three (ats : Array TypeId) (ty : TypeId) (a b c : Value) : Builtin.max_ ats ty #[a, b, c] = (Builtin.max2 a b >>= fun s => Builtin.max2 s c >>= fun s => pure s) := by simp only [Builtin.max_, List.foldlM_cons, List.foldlM_nil]
theorem min_three (ats : Array TypeId) (ty : TypeId) (a b c : Value) : Builtin.min_ ats ty #[a, b, c] = (Builtin.min2 a b >>= fun s => Builtin.min2 s c >>= fun s => pure s) := by simp only [Builtin.min_, List.foldlM_cons, List.foldlM_nil]
theorem max_four (ats : Array TypeId) (ty : TypeId) (a b c d : Value) : Builtin.max_ ats ty #[a, b, c, d] = (Builtin.max2 a b >>= fun s => Builtin.max2 s c >>= fun s => Builtin.max2 s d >>= fun s => pure s) := by simp only [Builtin.max_, List.foldlM_cons, List.foldlM_nil]
theorem min_four (ats : Array TypeId) (ty : TypeId) (a b c d : Value) : Builtin.min_ ats ty #[a, b, c, d] = (Builtin.min2 a b >>= fun s => Builtin.min2 s c >>= fun s => Builtin.min2 s d >>= fun s => pure s) := by simp only [Builtin.min_, List.foldlM_cons, List.foldlM_nil]
end Go.Proofs.YtfgedbakbljgfaaW.PrintMore
namespace Go.Proofs.YtfgedbakbljgfaaW.PrintWords
open Go.RowKit
section
variable {P : Program} {ops : Array Oper} {rest : List Oper} {o : Oper} {a : Act} {Q : Exit → Act → World → Prop} {W : World}
theorem gate_callee {f : FuncId} {as_ : Array Operand} {ts : Array TypeId} (_ho : o.op = .call { callee := .value (.func f), args := as_, argTypes := ts }) (h : wpList P ops Q (o :: rest) a W) : wpList P ops Q (o :: rest) a W := h
end
def shl (k : IntKind) (x y : Int) : Int := k.wrap (x * 2 ^ min y.toNat k.bits)
theorem shl_small {k : IntKind} {x y j : Int} (h : shl k x y = j) (hy : y ≤ k.bits) : k.wrap (x * 2 ^ y.toNat) = j := by rw [← h]; unfold shl; rw [Nat.min_eq_left (by omega)]
namespace Kd
end Kd
end Go.Proofs.YtfgedbakbljgfaaW.PrintWords
namespace Go.Proofs.YtfgedbakbljgfaaW.PrintWords
open Go.RowKit
namespace Kd
section
variable {α β : Type} {d : Kd α} {e base base' n m c g N' lo hi : Nat} {ok ok' S : Nat → Prop} {w W w1 : World} {A : Option Addr} {ad : Addr} {u v v1 : Value} {xs : List α}
theorem R_newM {M : Nat → Prop} (h : d.R e w1 W.heap.size ok v xs) (hle : w.heap.size ≤ W.heap.size) (hM : ∀ k, w.heap.size ≤ k → M k) : d.R e w1 W.heap.size (fun k => M k ∧ ok k) v xs := R_mono (R_bound h) (fun k hk => ⟨hM k (Nat.le_trans hle hk.2.1), hk.1⟩)
end
end Kd
end Go.Proofs.YtfgedbakbljgfaaW.PrintWords
namespace Go.Proofs.Ytfgedbakbljgfaa.PBoldSheets
open Go.RowKit Go.Proofs.YtfgedbakbljgfaaW.PrintWords Go.Proofs.YtfgedbakbljgfaaW.PrintLast Go.Proofs.YtfgedbakbljgfaaW.PrintMore
attribute [local go_sem] max2_int min2_int max_two min_two max_three min_three max_four min_four
def errW : Option Int → Value
 | none => .nilIface
 | some c => .iface 0 (.int .i64 c)
theorem errW_none : errW none = .nilIface := rfl
theorem errW_some (c : Int) : errW (some c) = .iface 0 (.int .i64 c) := rfl
theorem info3 : (Try.prog.info? 3).map (fun i => (i.zero, i.size, i.bytes)) = some (some (.int .i64 0), 1, 8) := by kernel_rfl
theorem info39 : (Try.prog.info? 39).map (fun i => (i.zero, i.size, i.bytes)) = some (some (.agg #[(.int .i64 0), (.int .i64 0), (.int .i64 0)]), 3, 24) := by kernel_rfl
structure S39 where
 f0 : Int
 f1 : Int
 f2 : Int
def z39 : S39 := ⟨(0 : Int), (0 : Int), (0 : Int)⟩
def k39 : Kd S39 := Kd.iso (Kd.pair (Kd.int .i64) (Kd.pair (Kd.int .i64) (Kd.int .i64))) (fun x : S39 => (x.f0, x.f1, x.f2))
theorem k39_open {w : World} {x : S39} {cs : List Value} (h : k39.K w x cs) : cs = [.int .i64 x.f0, .int .i64 x.f1, .int .i64 x.f2] := by
 obtain ⟨_, _, rfl, rfl, ⟨_, _, rfl, rfl, rfl⟩⟩ := h
 exact rfl
theorem k39_mk (w : World) (x : S39)  : k39.K w x [.int .i64 x.f0, .int .i64 x.f1, .int .i64 x.f2] := ⟨[.int .i64 x.f0], [.int .i64 x.f1, .int .i64 x.f2], rfl, rfl, ⟨[.int .i64 x.f1], [.int .i64 x.f2], rfl, rfl, rfl⟩⟩
theorem k39_mkM (w : World) (base : Nat) (ok : Nat → Prop) (x : S39)  : k39.M w base ok x [.int .i64 x.f0, .int .i64 x.f1, .int .i64 x.f2] := ⟨[.int .i64 x.f0], [.int .i64 x.f1, .int .i64 x.f2], rfl, rfl, ⟨[.int .i64 x.f1], [.int .i64 x.f2], rfl, rfl, rfl⟩⟩
def rd_T39 (xs : List S39) (i : Int) : S39 := xs.getD i.toNat z39
theorem at_T39 {w : World} {A : Option Addr} {n : Nat} {xs : List S39} (h : Kd.C k39 w A n xs) (i : Int) (h0 : 0 ≤ i) (h1 : i < n) : ∃ ad , A = some ad ∧ w.cell? (ad.add (i.toNat * 3)) = some (.int .i64 (rd_T39 xs i).f0) ∧ w.cell? ⟨(ad.add (i.toNat * 3)).block, (ad.add (i.toNat * 3)).off + 1, none⟩ = some (.int .i64 (rd_T39 xs i).f1) ∧ w.cell? ⟨(ad.add (i.toNat * 3)).block, (ad.add (i.toNat * 3)).off + 2, none⟩ = some (.int .i64 (rd_T39 xs i).f2) := by
 obtain ⟨ad, c, e, _, hK, hc0⟩ := Kd.C_get h z39 i h0 h1
 have hc : ∀ j u, c[j]? = some u → w.cell? (ad.add (i.toNat * 3 + j)) = some u := hc0
 obtain rfl := k39_open hK
 exact ⟨ad, e, hc 0 _ rfl, by rw [← add_field _ _ 1 (by omega)]; exact hc 1 _ rfl, by rw [← add_field _ _ 2 (by omega)]; exact hc 2 _ rfl⟩
structure S107 where
 f0 : Int
 f1 : Int
def z107 : S107 := ⟨(0 : Int), (0 : Int)⟩
def k107 : Kd S107 := Kd.iso (Kd.pair (Kd.int .i64) (Kd.int .i64)) (fun x : S107 => (x.f0, x.f1))
theorem k107_open {w : World} {x : S107} {cs : List Value} (h : k107.K w x cs) : cs = [.int .i64 x.f0, .int .i64 x.f1] := by
 obtain ⟨_, _, rfl, rfl, rfl⟩ := h
 exact rfl
theorem k107_mkM (w : World) (base : Nat) (ok : Nat → Prop) (x : S107)  : k107.M w base ok x [.int .i64 x.f0, .int .i64 x.f1] := ⟨[.int .i64 x.f0], [.int .i64 x.f1], rfl, rfl, rfl⟩
def rd_T107 (xs : List S107) (i : Int) : S107 := xs.getD i.toNat z107
theorem at_T107 {w : World} {A : Option Addr} {n : Nat} {xs : List S107} (h : Kd.C k107 w A n xs) (i : Int) (h0 : 0 ≤ i) (h1 : i < n) : ∃ ad , A = some ad ∧ w.cell? (ad.add (i.toNat * 2)) = some (.int .i64 (rd_T107 xs i).f0) ∧ w.cell? ⟨(ad.add (i.toNat * 2)).block, (ad.add (i.toNat * 2)).off + 1, none⟩ = some (.int .i64 (rd_T107 xs i).f1) := by
 obtain ⟨ad, c, e, _, hK, hc0⟩ := Kd.C_get h z107 i h0 h1
 have hc : ∀ j u, c[j]? = some u → w.cell? (ad.add (i.toNat * 2 + j)) = some u := hc0
 obtain rfl := k107_open hK
 exact ⟨ad, e, hc 0 _ rfl, by rw [← add_field _ _ 1 (by omega)]; exact hc 1 _ rfl⟩
structure S122 where
 f0 : ByteArray
 f1 : Int
def z122 : S122 := ⟨(⟨#[]⟩ : ByteArray), (0 : Int)⟩
def k122 : Kd S122 := Kd.iso (Kd.pair Kd.string (Kd.int .i64)) (fun x : S122 => (x.f0, x.f1))
theorem k122_open {w : World} {x : S122} {cs : List Value} (h : k122.K w x cs) : cs = [.string x.f0, .int .i64 x.f1] := by
 obtain ⟨_, _, rfl, rfl, rfl⟩ := h
 exact rfl
theorem k122_mkM (w : World) (base : Nat) (ok : Nat → Prop) (x : S122)  : k122.M w base ok x [.string x.f0, .int .i64 x.f1] := ⟨[.string x.f0], [.int .i64 x.f1], rfl, rfl, rfl⟩
def rd_T122 (xs : List S122) (i : Int) : S122 := xs.getD i.toNat z122
theorem at_T122 {w : World} {A : Option Addr} {n : Nat} {xs : List S122} (h : Kd.C k122 w A n xs) (i : Int) (h0 : 0 ≤ i) (h1 : i < n) : ∃ ad , A = some ad ∧ w.cell? (ad.add (i.toNat * 2)) = some (.string (rd_T122 xs i).f0) ∧ w.cell? ⟨(ad.add (i.toNat * 2)).block, (ad.add (i.toNat * 2)).off + 1, none⟩ = some (.int .i64 (rd_T122 xs i).f1) := by
 obtain ⟨ad, c, e, _, hK, hc0⟩ := Kd.C_get h z122 i h0 h1
 have hc : ∀ j u, c[j]? = some u → w.cell? (ad.add (i.toNat * 2 + j)) = some u := hc0
 obtain rfl := k122_open hK
 exact ⟨ad, e, hc 0 _ rfl, by rw [← add_field _ _ 1 (by omega)]; exact hc 1 _ rfl⟩
structure S68 where
 f0 : ByteArray
 f1 : Int
 f2 : Int
 f3 : (List Int)
def z68 : S68 := ⟨(⟨#[]⟩ : ByteArray), (0 : Int), (0 : Int), ([] : List Int)⟩
def k68 : Kd S68 := Kd.iso (Kd.pair Kd.string (Kd.pair (Kd.int .i64) (Kd.pair (Kd.int .i64) (Kd.slice 3 (Kd.int .i64))))) (fun x : S68 => (x.f0, x.f1, x.f2, x.f3))
theorem k68_open {w : World} {x : S68} {cs : List Value} (h : k68.K w x cs) : ∃ A3 c3, cs = [.string x.f0, .int .i64 x.f1, .int .i64 x.f2, .slice A3 x.f3.length c3] ∧ x.f3.length ≤ c3 ∧ (Kd.int .i64).C w A3 x.f3.length x.f3 := by
 obtain ⟨_, _, rfl, rfl, ⟨_, _, rfl, rfl, ⟨_, _, rfl, rfl, ⟨A3, c3, rfl, l3, g3⟩⟩⟩⟩ := h
 exact ⟨A3, c3, rfl, l3, g3⟩
theorem k68_mk (w : World) (x : S68) {A3 : Option Addr} {c3 : Nat} (l3 : x.f3.length ≤ c3) (g3 : (Kd.int .i64).C w A3 x.f3.length x.f3) : k68.K w x [.string x.f0, .int .i64 x.f1, .int .i64 x.f2, .slice A3 x.f3.length c3] := ⟨[.string x.f0], [.int .i64 x.f1, .int .i64 x.f2, .slice A3 x.f3.length c3], rfl, rfl, ⟨[.int .i64 x.f1], [.int .i64 x.f2, .slice A3 x.f3.length c3], rfl, rfl, ⟨[.int .i64 x.f2], [.slice A3 x.f3.length c3], rfl, rfl, ⟨A3, c3, rfl, l3, g3⟩⟩⟩⟩
theorem k68_mkF (W : World) (ok : Nat → Prop) (x : S68) {A3 : Option Addr} {c3 : Nat} (l3 : x.f3.length ≤ c3) (g3 : Kd.F (Kd.int .i64) W ok A3 x.f3.length x.f3) : Kd.FK k68 W ok x [.string x.f0, .int .i64 x.f1, .int .i64 x.f2, .slice A3 x.f3.length c3] := fun W2 hW => k68_mk W2 x l3 (g3 W2 hW)
def rd_T68 (xs : List S68) (i : Int) : S68 := xs.getD i.toNat z68
theorem at_T68 {w : World} {A : Option Addr} {n : Nat} {xs : List S68} (h : Kd.C k68 w A n xs) (i : Int) (h0 : 0 ≤ i) (h1 : i < n) : ∃ ad A3 c3, A = some ad ∧ w.cell? (ad.add (i.toNat * 4)) = some (.string (rd_T68 xs i).f0) ∧ w.cell? ⟨(ad.add (i.toNat * 4)).block, (ad.add (i.toNat * 4)).off + 1, none⟩ = some (.int .i64 (rd_T68 xs i).f1) ∧ w.cell? ⟨(ad.add (i.toNat * 4)).block, (ad.add (i.toNat * 4)).off + 2, none⟩ = some (.int .i64 (rd_T68 xs i).f2) ∧ w.cell? ⟨(ad.add (i.toNat * 4)).block, (ad.add (i.toNat * 4)).off + 3, none⟩ = some (.slice A3 (rd_T68 xs i).f3.length c3) ∧ (rd_T68 xs i).f3.length ≤ c3 ∧ (Kd.int .i64).C w A3 (rd_T68 xs i).f3.length (rd_T68 xs i).f3 := by
 obtain ⟨ad, c, e, _, hK, hc0⟩ := Kd.C_get h z68 i h0 h1
 have hc : ∀ j u, c[j]? = some u → w.cell? (ad.add (i.toNat * 4 + j)) = some u := hc0
 obtain ⟨A3, c3, rfl, l3, g3⟩ := k68_open hK
 exact ⟨ad, A3, c3, e, hc 0 _ rfl, by rw [← add_field _ _ 1 (by omega)]; exact hc 1 _ rfl, by rw [← add_field _ _ 2 (by omega)]; exact hc 2 _ rfl, by rw [← add_field _ _ 3 (by omega)]; exact hc 3 _ rfl, l3, g3⟩
end Go.Proofs.Ytfgedbakbljgfaa.PBoldSheets
namespace Go.Ov
open Go.Conc Go.Proofs Go.RowKit Go.Maps Go.Proofs.YtfgedbakbljgfaaW.PrintWords Go.Proofs.YtfgedbakbljgfaaW.PrintLast Go.Proofs.YtfgedbakbljgfaaW.PrintMore Go.Proofs.Ytfgedbakbljgfaa.PBoldSheets
noncomputable def c93_0 : Array Oper := (fun {c} (_ : rg Try.f93 0 = some c) => c) rfl
noncomputable def c93_1 : Array Oper := (fun {c} (_ : rg Try.f93 1 = some c) => c) rfl
noncomputable def c93_2 : Array Oper := (fun {c} (_ : rg Try.f93 2 = some c) => c) rfl
noncomputable def c93_3 : Array Oper := (fun {c} (_ : rg Try.f93 3 = some c) => c) rfl
noncomputable def c93_4 : Array Oper := (fun {c} (_ : rg Try.f93 4 = some c) => c) rfl
noncomputable def c93_5 : Array Oper := (fun {c} (_ : rg Try.f93 5 = some c) => c) rfl
noncomputable def c93_6 : Array Oper := (fun {c} (_ : rg Try.f93 6 = some c) => c) rfl
noncomputable def c93_7 : Array Oper := (fun {c} (_ : rg Try.f93 7 = some c) => c) rfl
noncomputable def c93_8 : Array Oper := (fun {c} (_ : rg Try.f93 8 = some c) => c) rfl
noncomputable def c93_9 : Array Oper := (fun {c} (_ : rg Try.f93 9 = some c) => c) rfl
noncomputable def c93_10 : Array Oper := (fun {c} (_ : rg Try.f93 10 = some c) => c) rfl
noncomputable def c93_11 : Array Oper := (fun {c} (_ : rg Try.f93 11 = some c) => c) rfl
noncomputable def c93_12 : Array Oper := (fun {c} (_ : rg Try.f93 12 = some c) => c) rfl
noncomputable def l93_1 : Code := (.seq (.region 8 c93_8 false) (.seq (.cond (Operand.tmp 18) Code.skip (Code.exit 2)) (.seq (.block 3 (.seq (.region 9 c93_9 false) (.seq (.region 10 c93_10 false) (.cond (Operand.tmp 28) (.region 11 c93_11 false) Code.skip)))) (.region 12 c93_12 false))))
noncomputable def c93_13 : Array Oper := (fun {c} (_ : rg Try.f93 13 = some c) => c) rfl
noncomputable def c93_14 : Array Oper := (fun {c} (_ : rg Try.f93 14 = some c) => c) rfl
noncomputable def c93_15 : Array Oper := (fun {c} (_ : rg Try.f93 15 = some c) => c) rfl
noncomputable def c93_16 : Array Oper := (fun {c} (_ : rg Try.f93 16 = some c) => c) rfl
noncomputable def l93_2 : Code := (.seq (.region 15 c93_15 false) (.seq (.cond (Operand.tmp 36) Code.skip (Code.exit 4)) (.block 5 (.region 16 c93_16 false))))
noncomputable def c93_17 : Array Oper := (fun {c} (_ : rg Try.f93 17 = some c) => c) rfl
noncomputable def c93_18 : Array Oper := (fun {c} (_ : rg Try.f93 18 = some c) => c) rfl
noncomputable def c93_19 : Array Oper := (fun {c} (_ : rg Try.f93 19 = some c) => c) rfl
noncomputable def l93_0 : Code := (.seq (.region 4 c93_4 false) (.seq (.cond (Operand.tmp 11) Code.skip (Code.exit 0)) (.seq (.block 1 (.seq (.region 5 c93_5 false) (.seq (.region 6 c93_6 false) (.seq (.seq (.region 7 c93_7 false) (.block 2 (.loop l93_1))) (.seq (.region 13 c93_13 false) (.seq (.seq (.region 14 c93_14 false) (.block 4 (.loop l93_2))) (.seq (.region 17 c93_17 false) (.cond (Operand.tmp 44) (.region 18 c93_18 false) Code.skip)))))))) (.region 19 c93_19 false))))
noncomputable def c93_20 : Array Oper := (fun {c} (_ : rg Try.f93 20 = some c) => c) rfl
noncomputable def b93 : Code := (.seq (.region 0 c93_0 false) (.seq (.region 1 c93_1 false) (.seq (.region 2 c93_2 false) (.seq (.seq (.region 3 c93_3 false) (.block 0 (.loop l93_0))) (.seq (.region 20 c93_20 false) Code.ret)))))
theorem body93 : Try.f93.body = some b93 := by kernel_rfl
abbrev tt : DataW Unit := .lit (.bool true)
def keysOf (streets : List Int) (st : Int) (adv : List S39) : List Lit := (adv.filter fun x => streets.getD x.f0.toNat 0 == st).map fun x => .int .i64 x.f0
def buyers (streets : List Int) (adv : List S39) (st : Int) : Nat := ((keysOf streets st adv).foldl addKey []).length
def cheap (streets : List Int) (adv : List S39) (grp : Int) (k : Nat) : List Int := ((List.range k).map fun (i : Nat) => (i : Int)).filter fun st => decide (grp ≤ (buyers streets adv st : Int))
theorem keysOf_snoc (streets : List Int) (st : Int) (adv : List S39) (i : Nat) (x : S39) (hx : adv[i]? = some x) :
  keysOf streets st (adv.take (i + 1)) = if streets.getD x.f0.toNat 0 == st then keysOf streets st (adv.take i) ++ [.int .i64 x.f0] else keysOf streets st (adv.take i) := by
 have hi : i < adv.length := (List.getElem?_eq_some_iff.1 hx).1
 have e : adv.take (i + 1) = adv.take i ++ [x] := by rw [List.take_add_one, hx]; rfl
 rw [e]
 unfold keysOf
 rw [List.filter_append, List.map_append]
 cases h : (streets.getD x.f0.toNat 0 == st)
 ·rw [List.filter_cons_of_neg (by rw [h]; simp)]; simp
 ·rw [List.filter_cons_of_pos (by exact h)]; simp
theorem cell_box (w : World) (cs : Array Value) (t : TypeId) (i : Nat) : (w.alloc (.cells cs t)).cell? ⟨w.heap.size, i, none⟩ = cs[i]? := by
 have h : (w.alloc (.cells cs t)).heap[w.heap.size]? = some (.cells cs t (0, 0)) := heap_alloc_new w _
 unfold World.cell?
 rw [h]
 rfl
theorem law3 : Keyed Try.prog 3 := int_keyed Try.underlying3
theorem clear_own {H : Type} {w : World} {k e t : TypeId} {R : Value → Option (DataW H × List MemPlace)} {b n : Nat} {D : DataW H} (h : w.ownsMap Try.prog k R b n D) (ht : Try.prog.underlying t = some (.map k e)) (ty : TypeId) :
  ∃ w', (Builtin.clear_ #[t] ty #[.map (some b)]).run Try.prog w = .ok (.tuple #[]) w' ∧ w'.ownsMap Try.prog k R b 0 (.map [] : DataW H) ∧ w.grownBy w' (some b) := by
 obtain ⟨es, clock, hb, F, _⟩ := h
 refine ⟨Go.ChangeMaps.setBlock w b (.map #[] clock), ?_, ?_, ?_⟩
 ·have h1 := run_getObj_map (P := Try.prog) w b es clock hb
  have h2 : ∀ o : Obj, (setObj b o).run Try.prog w = .ok () { w with heap := w.heap.setIfInBounds b o } := fun o => by
   simp [setObj, Sem.run, hb]
  simp [Builtin.clear_, run_underlying ht, h1, h2, Result.andThen]
  rfl
 ·have hlt := lt_of_some hb
  refine ⟨#[], clock, ?_, ⟨by simp [maxLen], ⟨by simp, by simp, by simp⟩, by simp⟩, by simp, by simp⟩
  show (w.heap.setIfInBounds b _)[b]? = _
  rw [Array.getElem?_setIfInBounds_self_of_lt hlt]
 ·refine ⟨rfl, rfl, rfl, by simp [Go.ChangeMaps.setBlock], fun i hi hne => ?_⟩
  show (w.heap.setIfInBounds b _)[i]? = _
  rw [Array.getElem?_setIfInBounds_ne (fun e => hne (by rw [e]))]
section
variable {cs : List Frame} {X : Frame → World → Prop} {K : List Item} {w0 : World} {p b l c off grp : Int} {As Aa : Option Addr} {ns ca cs0 na : Nat} {streets : List Int} {adv : List S39}
abbrev sal (p b l c off grp : Int) (As : Option Addr) (ns cs0 : Nat) (Aa : Option Addr) (na ca : Nat) : Array Value := #[.int .i64 p, .int .i64 b, .int .i64 l, .int .i64 c, .int .i64 off, .int .i64 grp, .slice As ns cs0, .slice Aa na ca]
structure Sold (w : World) (As : Option Addr) (ns : Nat) (Aa : Option Addr) (na : Nat) (streets : List Int) (adv : List S39) : Prop where
 st : Kd.C (Kd.int .i64) w As ns streets
 ad : Kd.C k39 w Aa na adv
 lens : streets.length = ns
 lena : adv.length = na
 maxs : ns ≤ 400
 maxa : na ≤ 2000
 who : ∀ x ∈ adv, 0 ≤ x.f0 ∧ x.f0 < ns
structure In93 (w0 : World) (sales : Array Value) (V : Value) (outs : List Int) (keys : List Lit) (n : Nat) (W : World) : Prop where
 old : Below (w0.heap.size + 1) (w0.alloc (.cells sales 36)) W
 two : w0.heap.size + 2 ≤ W.heap.size
 map : W.ownsMap Try.prog 3 (plainElem Try.prog 4) (w0.heap.size + 1) n (setOf tt keys)
 row : W.ownsRow (w0.heap.size + 2) 3 1 V outs.length (nums .i64 outs)
theorem adv93 (hS : Sold w0 As ns Aa na streets adv) (st : Nat) (V : Value) (outs : List Int)
  (hend : ∀ t0 t2 t6 t7 t8 t9 jF qA jE jP qM qN qL jN jY jC jR qJ jV jO jW qG jD jI qD qI jX qE jG qK jJ jZ qF jQ jL qH qC qB jS jM jA jH jB jT jK jU W, In93 w0 (sal p b l c off grp As ns cs0 Aa na ca) V outs (keysOf streets st adv) na W → To Try.prog cs X ((baseN 93).at ({ tmps := #[t0, ptr w0.heap.size, t2, V, .map (some (w0.heap.size + 1)), .int .i64 st, t6, t7, t8, t9, .int .i64 st, jF, qA, jE, jP, qM, qN, qL, jN, jY, jC, jR, qJ, jV, jO, jW, qG, jD, jI, qD, qI, jX, qE, jG, qK, jJ, jZ, qF, jQ, jL, qH, qC, qB, jS, jM, jA, jH, jB, jT, jK, jU], defers := [] } : Act) K) W) :
  ∀ (r i : Nat), i + r = na → ∀ t0 t2 t6 t7 t8 t9 jF qA jE jP jN jY jC jR qJ jV jO jW qG jD jI qD qI jX qE jG qK jJ jZ qF jQ jL qH qC qB jS jM jA jH jB jT jK jU W, In93 w0 (sal p b l c off grp As ns cs0 Aa na ca) V outs (keysOf streets st (adv.take i)) i W →
   To Try.prog cs X ((baseN 93).at ({ tmps := #[t0, ptr w0.heap.size, t2, V, .map (some (w0.heap.size + 1)), .int .i64 st, t6, t7, t8, t9, .int .i64 st, jF, qA, jE, jP, .slice Aa na ca, .int .i64 na, .int .i64 i, jN, jY, jC, jR, qJ, jV, jO, jW, qG, jD, jI, qD, qI, jX, qE, jG, qK, jJ, jZ, qF, jQ, jL, qH, qC, qB, jS, jM, jA, jH, jB, jT, jK, jU], defers := [] } : Act) (.code l93_1 :: .inLoop l93_1 :: .inBlock 2 :: K)) W := by
 intro r
 induction r with
 | zero =>
  intro i hi t0 t2 t6 t7 t8 t9 jF qA jE jP jN jY jC jR qJ jV jO jW qG jD jI qD qI jX qE jG qK jJ jZ qF jQ jL qH qC qB jS jM jA jH jB jT jK jU W hI
  obtain rfl : i = na := by omega
  have hlt : ¬ ((i : Int) < (i : Int)) := by omega
  refine To.seq (To.code fun K hK => ?_)
  unfold c93_8
  go_wp2
  refine hK _ _ (To.seq (To.no rfl (To.exit rfl ?_)))
  refine hend _ _ _ _ _ _ _ _ _ _ _ _ _ _ _ _ _ _ _ _ _ _ _ _ _ _ _ _ _ _ _ _ _ _ _ _ _ _ _ _ _ _ _ _ _ _ W ?_
  rw [List.take_of_length_le (by rw [hS.lena]; exact Nat.le_refl _)] at hI
  exact hI
 | succ r ih =>
  intro i hi t0 t2 t6 t7 t8 t9 jF qA jE jP jN jY jC jR qJ jV jO jW qG jD jI qD qI jX qE jG qK jJ jZ qF jQ jL qH qC qB jS jM jA jH jB jT jK jU W hI
  replace ih : Hid _ := ih
  have hlt : (i : Int) < (na : Int) := by omega
  refine To.seq (To.code fun K hK => ?_)
  unfold c93_8
  go_wp2
  refine hK _ _ (To.seq (To.yes rfl (To.skip (To.seq (To.block (To.seq (To.code fun K hK => ?_)))))))
  have hx : adv[i]? = some (rd_T39 adv i) := by
   have h1 : i < adv.length := by rw [hS.lena]; omega
   rw [List.getElem?_eq_getElem h1]
   simp [rd_T39, List.getD_eq_getElem?_getD, h1]
  obtain ⟨ad, e, h0, h1, h2⟩ := at_T39 hS.ad (i : Int) (by omega) hlt
  have hwho := hS.who _ (List.mem_of_getElem? hx)
  generalize rd_T39 adv i = x at hx h0 h1 h2 hwho
  simp only [Int.toNat_natCast] at h0 h1 h2
  obtain ⟨sd, es, hs0⟩ := Kd.at_int hS.st x.f0 hwho.1 hwho.2
  subst e
  subst es
  have hB : Below w0.heap.size w0 W := ((Below.refl _ _).alloc (Nat.le_refl _) _).trans (hI.old.mono (Nat.le_succ _))
  replace h0 := (hB.cell (World.block_lt_of_cell? w0 _ h0)).trans h0
  replace h1 := (hB.cell (World.block_lt_of_cell? w0 _ h1)).trans h1
  replace h2 := (hB.cell (World.block_lt_of_cell? w0 _ h2)).trans h2
  replace hs0 := (hB.cell (World.block_lt_of_cell? w0 _ hs0)).trans hs0
  have hb6 : W.cell? ⟨w0.heap.size, 6, none⟩ = some (.slice (some sd) ns cs0) := (hI.old.cell (Nat.lt_succ_self _)).trans (cell_box _ _ _ _)
  have hwx : x.f0 < (ns : Int) := hwho.2
  have hwx0 : (0 : Int) ≤ x.f0 := hwho.1
  have HI : Hid (In93 w0 (sal p b l c off grp (some sd) ns cs0 (some ad) na ca) V outs (keysOf streets st (adv.take i)) i W) := hI
  clear hI hwho hB
  unfold c93_9
  go_wp2
  refine hK _ _ (To.seq (To.code fun K hK => ?_))
  have hk := fun a v (h : W.cell? a = some v) => pw_cell_below (below_alloc (Below.refl W.heap.size W) (Obj.cells #[.int .i64 x.f0, .int .i64 x.f1, .int .i64 x.f2] 39)) h
  replace hb6 := hk _ _ hb6
  replace hs0 := hk _ _ hs0
  have hx0 : (W.alloc (Obj.cells #[.int .i64 x.f0, .int .i64 x.f1, .int .i64 x.f2] 39)).cell? ⟨W.heap.size, 0, none⟩ = some (.int .i64 x.f0) := cell_box W _ 39 0
  clear hk h0 h1 h2
  unfold c93_10
  go_wp2
  have hmax : i + 1 ≤ 2000 := by have := hS.maxa; omega
  have hwf : (Lit.int .i64 x.f0).wf = true := by have := hS.maxs; exact WalkArith.wf_i64 (by omega)
  have hsn := keysOf_snoc streets st adv i x hx
  have hI1 := HI.out
  have hI2 : In93 w0 (sal p b l c off grp (some sd) ns cs0 (some ad) na ca) V outs (keysOf streets st (adv.take i)) i (W.alloc (Obj.cells #[.int .i64 x.f0, .int .i64 x.f1, .int .i64 x.f2] 39)) :=
   ⟨hI1.old.alloc (Nat.le_of_succ_le hI1.two) _, by have := hI1.two; simp; omega, hI1.map.alloc _, hI1.row.alloc _⟩
  clear HI hI1 hb6 hs0
  generalize W.alloc (Obj.cells #[.int .i64 x.f0, .int .i64 x.f1, .int .i64 x.f2] 39) = W2 at hI2 hx0 ⊢
  cases hst : (rd streets x.f0 == (st : Int)) with
  | true =>
   have hst' : (streets.getD x.f0.toNat 0 == (st : Int)) = true := hst
   rw [hst', if_pos rfl] at hsn
   refine hK _ _ (To.yes rfl (To.code fun K hK => ?_))
   have hx0 : W2.cell? ⟨W.heap.size, 0, none⟩ = some (.int .i64 x.f0) := hx0
   have HI : Hid _ := hI2
   clear hI2 hst hst'
   unfold c93_11
   go_wp2_with (first | (at_mapUpdate; refine wpList_mapUpdate_own _ rfl _ _ _ 150 rfl 3 4 law3 Try.underlying150 _ (w0.heap.size + 1) i _ rfl HI.out.map (by unfold maxLen; omega) _ _ (.int .i64 x.f0) rfl rfl (keyOf_int_mk Try.underlying3 hwf) _ [] (plainElem_bool Try.underlying4 true) ?_; intro w1 hown1 hgrow1) | go_in)
   have hI3 : In93 w0 (sal p b l c off grp (some sd) ns cs0 (some ad) na ca) V outs (keysOf streets st (adv.take (i + 1))) (i + 1) w1 := by
    have hI2 := HI.out
    refine ⟨hI2.old.grown hgrow1 (Nat.le_of_succ_le hI2.two) (fun j hj => by cases hj; exact Nat.le_refl _), Nat.le_trans hI2.two hgrow1.size, ?_, hI2.row.kept hgrow1 ?_⟩
    ·rw [hsn, setOf_snoc]; exact hown1
    ·cases hb : V.ownBlock with
     | none => exact .inl rfl
     | some j =>
      have := own_base hI2.row j hb
      exact .inr fun e => by cases e; omega
   refine hK _ _ (To.inBlock (To.code fun K hK => ?_))
   clear HI hown1 hgrow1 hsn hx0
   have HI : Hid _ := hI3
   clear hI3
   unfold c93_12
   go_wp2
   rw [show ((i : Int) + 1) = ((i + 1 : Nat) : Int) by omega]
   exact hK _ _ (To.inLoop (ih.out (i + 1) (by omega) _ _ _ _ _ _ _ _ _ _ _ _ _ _ _ _ _ _ _ _ _ _ _ _ _ _ _ _ _ _ _ _ _ _ _ _ _ _ _ _ _ _ _ _ HI.out))
  | false =>
   have hst' : (streets.getD x.f0.toNat 0 == (st : Int)) = false := hst
   rw [hst', if_neg (by simp)] at hsn
   refine hK _ _ (To.no rfl (To.skip (To.inBlock (To.code fun K hK => ?_))))
   have HI : Hid _ := hI2
   clear hI2 hst hst'
   unfold c93_12
   go_wp2
   rw [show ((i : Int) + 1) = ((i + 1 : Nat) : Int) by omega]
   refine hK _ _ (To.inLoop (ih.out (i + 1) (by omega) _ _ _ _ _ _ _ _ _ _ _ _ _ _ _ _ _ _ _ _ _ _ _ _ _ _ _ _ _ _ _ _ _ _ _ _ _ _ _ _ _ _ _ _ ?_))
   have hI2 := HI.out
   exact ⟨hI2.old, hI2.two, by rw [hsn]; exact hI2.map.mono (Nat.le_succ i), hI2.row⟩
def Lc (D : DataW Unit) (left : Lit → Bool) : Nat := match D with
 | .map es => (es.filter fun p => left p.1).length
 | _ => 0
theorem lc_end {D : DataW Unit} {left : Lit → Bool} (h : ∀ k, left k = false) : Lc D left = 0 := by
 unfold Lc
 split
 ·rw [List.filter_eq_nil_iff.2 (fun p _ => by rw [h]; simp)]; rfl
 ·rfl
theorem lc_start {w : World} {b n : Nat} {D : DataW Unit} (h : w.ownsMap Try.prog 3 (plainElem Try.prog 4) b n D) : Lc D (Maps.has D) = Maps.size D := by
 obtain ⟨es, rfl, _, hk⟩ := h.entries law3
 show (es.filter fun p => Maps.has (.map es) p.1).length = es.length
 rw [List.filter_eq_self.2 fun p hp => ?_]
 rw [Maps.has_eq]
 exact List.any_eq_true.2 ⟨p, hp, WideAt.sameKey_self (hk p hp)⟩
theorem lc_step {w : World} {b r n cnt : Nat} {D : DataW Unit} {left : Lit → Bool} {kl : Lit} (h : w.ranges Try.prog 3 (plainElem Try.prog 4) b r n D left cnt) (hl : left kl = true) :
  Lc D left = Lc D (fun z => left z && !z.sameKey kl) + 1 := by
 obtain ⟨es, hD, hp, hk⟩ := h.owns.entries law3
 obtain ⟨es0, _, _, _, _, _, _, _, hD2, _, _, _, _, hin, _⟩ := h
 obtain ⟨x, hx, hxk⟩ := hin kl hl
 have hes := DataW.map.inj (hD.symm.trans hD2)
 have hmem : ∃ p ∈ es, p.1 = kl := ⟨_, by rw [hes]; exact mem_sorted.2 (List.mem_map.2 ⟨x, hx, rfl⟩), hxk⟩
 rw [hD]
 show (es.filter fun p => left p.1).length = (es.filter fun p => left p.1 && !p.1.sameKey kl).length + 1
 have h1 := Maps.length_strike (k := kl) (es.filter fun p => left p.1) (hp.filter _)
 rw [if_pos ?_] at h1
 ·rw [← h1, List.filter_filter]
  congr 3
  funext p
  rw [Bool.and_comm]
 ·obtain ⟨p, hpm, rfl⟩ := hmem
  exact List.any_eq_true.2 ⟨p, List.mem_filter.2 ⟨hpm, hl⟩, WideAt.sameKey_self (hk p hpm)⟩
theorem row_other {w w' : World} {B : Nat} {V : Value} {n : Nat} {xs : List Value} (h : w.ownsRow B 3 1 V n xs) {j : Nat} (hj : j < B) (hg : w.grownBy w' (some j)) : w'.ownsRow B 3 1 V n xs :=
 h.kept hg (by
  cases hb : V.ownBlock with
  | none => exact .inl rfl
  | some i =>
   have := own_base h i hb
   exact .inr fun e => by cases e; omega)
theorem cnt93 (st : Nat) (V : Value) (outs : List Int) (keys : List Lit) (nn : Nat) (hnn : nn ≤ 2000) (r : Nat) (sales : Array Value)
  (hend : ∀ t0 t2 t6 t7 t9 jF qA jE jP qM qN qL jN jY jC jR qJ jV jO jW qG jD jI qD qI jX qE jG qK jJ jZ qF jQ jL qH qC qB jS jM jA jH jB jT jK jU W, In93 w0 sales V outs keys nn W → To Try.prog cs X ((baseN 93).at ({ tmps := #[t0, ptr w0.heap.size, t2, V, .map (some (w0.heap.size + 1)), .int .i64 st, t6, t7, .int .i64 (Maps.size (setOf tt keys) : Nat), t9, .int .i64 st, jF, qA, jE, jP, qM, qN, qL, jN, jY, jC, jR, qJ, jV, jO, jW, qG, jD, jI, qD, qI, jX, qE, jG, qK, jJ, jZ, qF, jQ, jL, qH, qC, qB, jS, jM, jA, jH, jB, jT, jK, jU], defers := [] } : Act) K) W) :
  ∀ (cnt n : Nat) (left : Lit → Bool) t0 t2 t6 t7 t9 jF qA jE jP qM qN qL jN jY jC jR qJ jV jO jW qG jD jI qD qI jX qE jG jJ jZ qF jQ jL qH qC qB jS jM jA jH jB jT jK jU W, W.ranges Try.prog 3 (plainElem Try.prog 4) (w0.heap.size + 1) r nn (setOf tt keys) left cnt → n + Lc (setOf tt keys) left = Maps.size (setOf tt keys) → w0.heap.size + 2 ≤ r → (∀ k, V.ownBlock = some k → k ≠ r) →
   In93 w0 sales V outs keys nn W →
   To Try.prog cs X ((baseN 93).at ({ tmps := #[t0, ptr w0.heap.size, t2, V, .map (some (w0.heap.size + 1)), .int .i64 st, t6, t7, .int .i64 n, t9, .int .i64 st, jF, qA, jE, jP, qM, qN, qL, jN, jY, jC, jR, qJ, jV, jO, jW, qG, jD, jI, qD, qI, jX, qE, jG, ptr r, jJ, jZ, qF, jQ, jL, qH, qC, qB, jS, jM, jA, jH, jB, jT, jK, jU], defers := [] } : Act) (.code l93_2 :: .inLoop l93_2 :: .inBlock 4 :: K)) W := by
 intro cnt
 induction cnt using Nat.strongRecOn with
 | _ cnt ih =>
  intro n left t0 t2 t6 t7 t9 jF qA jE jP qM qN qL jN jY jC jR qJ jV jO jW qG jD jI qD qI jX qE jG jJ jZ qF jQ jL qH qC qB jS jM jA jH jB jT jK jU W hR hn hr hV hI
  replace ih : Hid _ := ih
  have HI : Hid _ := hI
  have HR : Hid _ := hR
  have HV : Hid _ := hV
  have hsz : Maps.size (setOf tt keys) ≤ nn := hI.map.size_le
  clear hI hV
  refine To.seq (To.code fun K hK => ?_)
  unfold c93_15
  go_wp2_with (first | (at_next; refine wpList_next_ranges _ rfl _ rfl 3 law3 (plainElem Try.prog 4) (Value.int .i64) (fun c : Value => c) (fun key kl hkey => by obtain ⟨x, rfl, _⟩ := Maps.keyOf_int_inv Try.underlying3 hkey; exact ⟨x, rfl⟩) (fun v y hv => ⟨v, rfl⟩) (w0.heap.size + 1) r nn _ left cnt rfl HR.out ?_ ?_) | go_in)
  ·intro h0 hl0
   go_wp2
   refine hK _ _ (To.seq (To.no rfl (To.exit rfl ?_)))
   have hz := lc_end (D := setOf tt keys) hl0
   obtain rfl : n = Maps.size (setOf tt keys) := by omega
   exact hend _ _ _ _ _ _ _ _ _ _ _ _ _ _ _ _ _ _ _ _ _ _ _ _ _ _ _ _ _ _ _ _ _ _ _ _ _ _ _ _ _ _ _ _ _ W HI.out
  ·intro x c kl y y2 w1 cnt1 hkx hlk hy hat hrg1 hlt1 hg1 hs1 hen
   clear hkx hy hat hen
   have hlc := lc_step HR.out hlk
   have hI2 : In93 w0 sales V outs keys nn w1 := by
    have hI := HI.out
    exact ⟨hI.old.grown hg1 (Nat.le_of_succ_le hI.two) (fun j hj => by cases hj; omega), by rw [hs1]; exact hI.two, hrg1.owns, hI.row.kept hg1 (by
     cases hb : V.ownBlock with
     | none => exact .inl rfl
     | some i => exact .inr fun e => HV.out i hb (by cases e; rfl))⟩
   clear HI HR
   have HI : Hid _ := hI2
   have HR : Hid _ := hrg1
   clear hI2 hrg1 hg1
   have hn1 : n + 1 ≤ 2000 := by omega
   go_wp2
   refine hK _ _ (To.seq (To.yes rfl (To.skip (To.block (To.code fun K hK => ?_)))))
   unfold c93_16
   go_wp2
   rw [show ((n : Int) + 1) = ((n + 1 : Nat) : Int) by omega]
   exact hK _ _ (To.inBlock (To.inLoop (ih.out cnt1 hlt1 (n + 1) (fun z => left z && !z.sameKey kl) _ _ _ _ _ _ _ _ _ _ _ _ _ _ _ _ _ _ _ _ _ _ _ _ _ _ _ _ _ _ _ _ _ _ _ _ _ _ _ _ _ _ _ _ w1 HR.out (by omega) hr HV.out HI.out)))
theorem cheap_succ (streets : List Int) (adv : List S39) (grp : Int) (k : Nat) : cheap streets adv grp (k + 1) = if grp ≤ (buyers streets adv k : Int) then cheap streets adv grp k ++ [(k : Int)] else cheap streets adv grp k := by
 unfold cheap
 rw [List.range_succ, List.map_append, List.filter_append]
 split
 ·rename_i h
  rw [List.map_singleton, List.filter_cons_of_pos (by simpa using h)]; rfl
 ·rename_i h
  rw [List.map_singleton, List.filter_cons_of_neg (by simpa using h)]; simp
theorem cheap_len (streets : List Int) (adv : List S39) (grp : Int) (k : Nat) : (cheap streets adv grp k).length ≤ k := by
 unfold cheap
 have := List.length_filter_le (fun st => decide (grp ≤ (buyers streets adv st : Int))) ((List.range k).map fun (i : Nat) => (i : Int))
 simpa using this
theorem keys_wf (streets : List Int) (st : Int) (adv : List S39) (hw : ∀ x ∈ adv, 0 ≤ x.f0 ∧ x.f0 < 1000) : ∀ x ∈ keysOf streets st adv, WideAt.IsKeyLit x := by
 intro x hx
 unfold keysOf at hx
 obtain ⟨y, hy, rfl⟩ := List.mem_map.1 hx
 exact True.intro
theorem out93 (hS : Sold w0 As ns Aa na streets adv)
  (hend : ∀ t0 t2 t5 t6 t7 t8 t9 qO jF qA jE jP qM qN qL jN jY jC jR qJ jV jO jW qG jD jI qD qI jX qE jG qK jJ jZ qF jQ jL qH qC qB jS jM jA jH jB jT jK jU V keys nn W, In93 w0 (sal p b l c off grp As ns cs0 Aa na ca) V (cheap streets adv grp 10) keys nn W → To Try.prog cs X ((baseN 93).at ({ tmps := #[t0, ptr w0.heap.size, t2, V, .map (some (w0.heap.size + 1)), t5, t6, t7, t8, t9, qO, jF, qA, jE, jP, qM, qN, qL, jN, jY, jC, jR, qJ, jV, jO, jW, qG, jD, jI, qD, qI, jX, qE, jG, qK, jJ, jZ, qF, jQ, jL, qH, qC, qB, jS, jM, jA, jH, jB, jT, jK, jU], defers := [] } : Act) K) W) :
  ∀ (r k : Nat), k + r = 10 → ∀ t0 t2 t5 t6 t7 t8 t9 jF qA jE jP qM qN qL jN jY jC jR qJ jV jO jW qG jD jI qD qI jX qE jG qK jJ jZ qF jQ jL qH qC qB jS jM jA jH jB jT jK jU V keys nn W, In93 w0 (sal p b l c off grp As ns cs0 Aa na ca) V (cheap streets adv grp k) keys nn W →
   To Try.prog cs X ((baseN 93).at ({ tmps := #[t0, ptr w0.heap.size, t2, V, .map (some (w0.heap.size + 1)), t5, t6, t7, t8, t9, .int .i64 k, jF, qA, jE, jP, qM, qN, qL, jN, jY, jC, jR, qJ, jV, jO, jW, qG, jD, jI, qD, qI, jX, qE, jG, qK, jJ, jZ, qF, jQ, jL, qH, qC, qB, jS, jM, jA, jH, jB, jT, jK, jU], defers := [] } : Act) (.code l93_0 :: .inLoop l93_0 :: .inBlock 0 :: K)) W := by
 intro r
 induction r with
 | zero =>
  intro k hk t0 t2 t5 t6 t7 t8 t9 jF qA jE jP qM qN qL jN jY jC jR qJ jV jO jW qG jD jI qD qI jX qE jG qK jJ jZ qF jQ jL qH qC qB jS jM jA jH jB jT jK jU V keys nn W hI
  obtain rfl : k = 10 := by omega
  replace hI : Hid _ := hI
  refine To.seq (To.code fun K hK => ?_)
  unfold c93_4
  go_wp2
  exact hK _ _ (To.seq (To.no rfl (To.exit rfl (hend _ _ _ _ _ _ _ _ _ _ _ _ _ _ _ _ _ _ _ _ _ _ _ _ _ _ _ _ _ _ _ _ _ _ _ _ _ _ _ _ _ _ _ _ _ _ _ _ V keys nn W hI.out))))
 | succ r ih =>
  intro k hk t0 t2 t5 t6 t7 t8 t9 jF qA jE jP qM qN qL jN jY jC jR qJ jV jO jW qG jD jI qD qI jX qE jG qK jJ jZ qF jQ jL qH qC qB jS jM jA jH jB jT jK jU V keys nn W hI
  replace ih : Hid _ := ih
  have hk10 : (k : Int) < 10 := by omega
  obtain ⟨w1, hcl, hown1, hg1⟩ := clear_own hI.map Try.underlying150 0
  have hI1 : In93 w0 (sal p b l c off grp As ns cs0 Aa na ca) V (cheap streets adv grp k) (keysOf streets k (adv.take 0)) 0 w1 :=
   ⟨hI.old.grown hg1 (Nat.le_of_succ_le hI.two) (fun j hj => by cases hj; exact Nat.le_refl _), Nat.le_trans hI.two hg1.size, hown1, row_other hI.row (Nat.lt_succ_self _) hg1⟩
  clear hI hown1 hg1
  have hb7 : w1.cell? ⟨w0.heap.size, 7, none⟩ = some (.slice Aa na ca) := (hI1.old.cell (Nat.lt_succ_self _)).trans (cell_box _ _ _ _)
  have HI : Hid _ := hI1
  clear hI1
  refine To.seq (To.code fun K hK => ?_)
  unfold c93_4
  go_wp2
  refine hK _ _ (To.seq (To.yes rfl (To.skip (To.seq (To.block (To.seq (To.code fun K hK => ?_)))))))
  unfold c93_5
  go_wp2
  refine hK _ _ (To.seq (To.code fun K hK => ?_))
  unfold c93_6
  go_wp2
  refine hK _ _ (To.seq (To.seq (To.code fun K hK => ?_)))
  clear hcl
  unfold c93_7
  go_wp2
  refine hK _ _ (To.block (To.loop ?_))
  clear hb7
  refine adv93 hS k V (cheap streets adv grp k) (fun t0 t2 t6 t7 t8 t9 jF qA jE jP qM qN qL jN jY jC jR qJ jV jO jW qG jD jI qD qI jX qE jG qK jJ jZ qF jQ jL qH qC qB jS jM jA jH jB jT jK jU W2 hI2 => ?_) na 0 (by omega) _ _ _ _ _ _ _ _ _ _ _ _ _ _ _ _ _ _ _ _ _ _ _ _ _ _ _ _ _ _ _ _ _ _ _ _ _ _ _ _ _ _ _ w1 HI.out
  clear HI
  have HI : Hid _ := hI2
  clear hI2
  refine To.seq (To.code fun K hK => ?_)
  unfold c93_13
  go_wp2
  refine hK _ _ (To.seq (To.seq (To.code fun K hK => ?_)))
  unfold c93_14
  go_wp2_with (first | (at_range; refine wpList_range_own _ rfl _ 150 rfl 3 4 law3 Try.underlying150 (plainElem Try.prog 4) (w0.heap.size + 1) na (setOf tt (keysOf streets k adv)) rfl HI.out.map ?_; intro w3 hr3 hg3 hs3) | go_in)
  have hI3 : In93 w0 (sal p b l c off grp As ns cs0 Aa na ca) V (cheap streets adv grp k) (keysOf streets k adv) na w3 := by
   have hI := HI.out
   exact ⟨hI.old.grown hg3 (Nat.le_of_succ_le hI.two) (fun j hj => by cases hj), by rw [hs3]; have := hI.two; omega, hI.map.kept hg3 (by simp), hI.row.kept hg3 (by cases V.ownBlock <;> simp)⟩
  have hr2 : w0.heap.size + 2 ≤ W2.heap.size := HI.out.two
  have hVlt := fun j hj => own_lt HI.out.row j hj
  clear HI
  refine hK _ _ (To.block (To.loop ?_))
  refine cnt93 k V (cheap streets adv grp k) (keysOf streets k adv) na hS.maxa W2.heap.size _ (fun t0 t2 t6 t7 t9 jF qA jE jP qM qN qL jN jY jC jR qJ jV jO jW qG jD jI qD qI jX qE jG qK jJ jZ qF jQ jL qH qC qB jS jM jA jH jB jT jK jU W3 hI4 => ?_) (Maps.size (setOf tt (keysOf streets k adv))) 0 (Maps.has (setOf tt (keysOf streets k adv))) _ _ _ _ _ _ _ _ _ _ _ _ _ _ _ _ _ _ _ _ _ _ _ _ _ _ _ _ _ _ _ _ _ _ _ _ _ _ _ _ _ _ _ _ w3 hr3 (by rw [lc_start hI3.map]; omega) hr2 (fun j hj => by have := hVlt j hj; omega) hI3
  clear hr3 hg3 hs3 hI3 hr2 hVlt hK
  clear w3
  have hsz : Maps.size (setOf tt (keysOf streets k adv)) = buyers streets adv k := size_setOf tt _ (keys_wf _ _ _ fun x hx => by have := hS.who x hx; have := hS.maxs; omega)
  rw [hsz]
  have hb5 : W3.cell? ⟨w0.heap.size, 5, none⟩ = some (.int .i64 grp) := (hI4.old.cell (Nat.lt_succ_self _)).trans (cell_box _ _ _ _)
  have hle := cheap_len streets adv grp k
  have HI : Hid _ := hI4
  clear hI4
  refine To.seq (To.code fun K hK => ?_)
  unfold c93_17
  go_wp2
  clear hb5
  have hsu := cheap_succ streets adv grp k
  by_cases hge : grp ≤ (buyers streets adv k : Int)
  ·rw [if_pos hge] at hsu
   refine hK _ _ (To.yes (congrArg Value.bool (decide_eq_true hge)) (To.code fun K hK => ?_))
   clear hge
   unfold c93_18
   go_wp2_with (first | (at_builtin; refine print_append_num (w0 := W3) (W := W3) (w0.heap.size + 2) rfl _ _ 22 3 .i64 8 rfl Try.underlying22 info3 (by decide) V (cheap streets adv grp k) (k : Int) rfl rfl HI.out.row (Below.refl _ _) HI.out.two (by omega) ?_; intro v1 w4 hown4 hB4 hg4 hat4) | go_in)
   have hI5 : In93 w0 (sal p b l c off grp As ns cs0 Aa na ca) v1 (cheap streets adv grp (k + 1)) (keysOf streets k adv) na w4 := by
    have hI := HI.out
    have hb := fun j hj => own_base hI.row j hj
    rw [hsu]
    refine ⟨hI.old.grown hg4 (Nat.le_of_succ_le hI.two) (fun j hj => by have := hb j hj; omega), Nat.le_trans hI.two hg4.size, hI.map.kept hg4 (fun e => by have := hb _ e.symm; omega), hown4⟩
   clear HI hown4 hB4 hg4 hat4
   have HI : Hid _ := hI5
   clear hI5
   refine hK _ _ (To.inBlock (To.code fun K hK => ?_))
   unfold c93_19
   go_wp2
   rw [show ((k : Int) + 1) = ((k + 1 : Nat) : Int) by omega]
   exact hK _ _ (To.inLoop (ih.out (k + 1) (by omega) _ _ _ _ _ _ _ _ _ _ _ _ _ _ _ _ _ _ _ _ _ _ _ _ _ _ _ _ _ _ _ _ _ _ _ _ _ _ _ _ _ _ _ _ _ _ _ v1 _ _ w4 HI.out))
  ·rw [if_neg hge] at hsu
   refine hK _ _ (To.no (congrArg Value.bool (decide_eq_false hge)) (To.skip (To.inBlock (To.code fun K hK => ?_))))
   clear hge
   unfold c93_19
   go_wp2
   rw [show ((k : Int) + 1) = ((k + 1 : Nat) : Int) by omega]
   exact hK _ _ (To.inLoop (ih.out (k + 1) (by omega) _ _ _ _ _ _ _ _ _ _ _ _ _ _ _ _ _ _ _ _ _ _ _ _ _ _ _ _ _ _ _ _ _ _ _ _ _ _ _ _ _ _ _ _ _ _ _ V _ _ W3 (by rw [hsu]; exact HI.out)))
theorem calls93 (hS : Sold w0 As ns Aa na streets adv) :
  Calls Try.prog 93 #[.agg (sal p b l c off grp As ns cs0 Aa na ca)] w0 fun e w' => ∃ v, e = .returned v ∧ w'.ownsRow w0.heap.size 3 1 v (cheap streets adv grp 10).length (nums .i64 (cheap streets adv grp 10)) ∧ Below w0.heap.size w0 w' := by
 refine calls_of_to (tmps := #[.agg (sal p b l c off grp As ns cs0 Aa na ca), undef, undef, undef, undef, undef, undef, undef, undef, undef, undef, undef, undef, undef, undef, undef, undef, undef, undef, undef, undef, undef, undef, undef, undef, undef, undef, undef, undef, undef, undef, undef, undef, undef, undef, undef, undef, undef, undef, undef, undef, undef, undef, undef, undef, undef, undef, undef, undef, undef, undef]) Try.func93 body93 (by kernel_rfl) fun cs => ?_
 have hmm := @run_makeMap Try.prog
 unfold b93
 refine To.seq (To.code fun K hK => ?_)
 unfold c93_0
 go_wp2
 refine hK _ _ (To.seq (To.code fun K hK => ?_))
 unfold c93_1
 go_wp2
 refine hK _ _ (To.seq (To.code fun K hK => ?_))
 unfold c93_2
 go_wp2
 refine hK _ _ (To.seq (To.seq (To.code fun K hK => ?_)))
 unfold c93_3
 go_wp2
 refine hK _ _ (To.block (To.loop ?_))
 clear hmm hK
 refine out93 hS (fun t0 t2 t5 t6 t7 t8 t9 qO jF qA jE jP qM qN qL jN jY jC jR qJ jV jO jW qG jD jI qD qI jX qE jG qK jJ jZ qF jQ jL qH qC qB jS jM jA jH jB jT jK jU V keys nn W hI => ?_) 10 0 (by omega) _ _ _ _ _ _ _ _ _ _ _ _ _ _ _ _ _ _ _ _ _ _ _ _ _ _ _ _ _ _ _ _ _ _ _ _ _ _ _ _ _ _ _ _ _ _ _ (.slice none 0 0) [] 0 _ ⟨(Below.refl _ _).alloc (by simp) _, by simp, ?_, ?_⟩
 ·refine To.seq (To.code fun K hK => ?_)
  have HI : Hid _ := hI
  clear hI
  unfold c93_20
  go_wp2
  have hI := HI.out
  refine hK _ _ (To.ret Try.func93 rfl (results_tmp rfl _ _ _) ⟨?_, ?_⟩)
  ·exact ⟨hI.row.1, hI.row.2.imp id fun ⟨g, cap, cur, h1, h2, h3⟩ => ⟨g, cap, cur, h1, by omega, h3⟩⟩
  ·exact ((Below.refl _ _).alloc (Nat.le_refl _) _).trans (hI.old.mono (Nat.le_succ _))
 ·have h := World.ownsMap_made (H := Unit) (w0.alloc (Obj.cells (sal p b l c off grp As ns cs0 Aa na ca) 36)) Try.prog 3 (plainElem Try.prog 4)
  rw [show (w0.alloc (Obj.cells (sal p b l c off grp As ns cs0 Aa na ca) 36)).heap.size = w0.heap.size + 1 by simp] at h
  exact h
 ·exact own_nil _ _ _ _
end
def priceOf (p b l c : Int) (x : S39) : Int := if x.f1 = 1 then p else if x.f1 = 2 then wrap64 (b + wrap64 (wrap64 (x.f2 - 1) * l)) else wrap64 (x.f2 * c)
def advV (g : Nat) (x : S39) : Value := if x.f1 = 1 then .iface 160 (.agg #[ptr g]) else if x.f1 = 2 then .iface 162 (.agg #[ptr g, .int .i64 x.f2]) else .iface 163 (.agg #[ptr g, .int .i64 x.f2])
section
variable {w : World} {p b l c off grp : Int}
theorem calls104 : Calls Try.prog 104 #[.agg #[.int .i64 p, .int .i64 b, .int .i64 l, .int .i64 c, .int .i64 off, .int .i64 grp]] w fun e w' => ∃ v, e = .returned v ∧ ∃ g, v = ptr g ∧ w.heap.size ≤ g ∧ w'.heap[g]? = some (.cells #[.int .i64 p, .int .i64 b, .int .i64 l, .int .i64 c] 158 (0, 0)) ∧ Below w.heap.size w w' := by
 have hu := Try.underlying33
 go_enter Try.func104, Try.ntmps104
 go_wp2
 go_ret
 refine ⟨_, rfl, w.heap.size + 1, rfl, by omega, ?_, ((Below.refl _ _).alloc (Nat.le_refl _) _).alloc (by simp) _⟩
 have h := heap_alloc_new (w.alloc (.cells #[.int .i64 p, .int .i64 b, .int .i64 l, .int .i64 c, .int .i64 off, .int .i64 grp] 33)) (.cells #[.int .i64 p, .int .i64 b, .int .i64 l, .int .i64 c] 158)
 simpa using h
theorem calls105 (g : Nat) (x : S39) : Calls Try.prog 105 #[ptr g, .agg #[.int .i64 x.f0, .int .i64 x.f1, .int .i64 x.f2]] w fun e w' => ∃ v, e = .returned v ∧ v = advV g x ∧ Below w.heap.size w w' := by
 have hu := Try.underlying39
 unfold advV ptr
 by_cases h1 : x.f1 = 1
 ·rw [if_pos h1]
  rw [h1]
  go_enter Try.func105, Try.ntmps105
  go_wp2
  go_ret
  exact ⟨_, rfl, rfl, (Below.refl _ _).alloc (Nat.le_refl _) _⟩
 ·rw [if_neg h1]
  by_cases h2 : x.f1 = 2
  ·rw [if_pos h2]
   rw [h2]
   go_enter Try.func105, Try.ntmps105
   go_wp2
   go_ret
   exact ⟨_, rfl, rfl, (Below.refl _ _).alloc (Nat.le_refl _) _⟩
  ·rw [if_neg h2]
   have h1' : (x.f1 == 1) = false := by simpa using h1
   have h2' : (x.f1 == 2) = false := by simpa using h2
   go_enter Try.func105, Try.ntmps105
   go_wp2
   go_ret
   exact ⟨_, rfl, rfl, (Below.refl _ _).alloc (Nat.le_refl _) _⟩
theorem calls161 {g : Nat} (hg : w.heap[g]? = some (.cells #[.int .i64 p, .int .i64 b, .int .i64 l, .int .i64 c] 158 (0, 0))) : Calls Try.prog 161 #[.agg #[ptr g]] w fun e w' => ∃ v, e = .returned v ∧ v = .int .i64 p ∧ Below w.heap.size w w' := by
 have h0 : ∀ o, (w.alloc o).cell? ⟨g, 0, none⟩ = some (.int .i64 p) := fun o => pw_cell_below (below_alloc (Below.refl _ _) o) (blk_cell hg 0)
 unfold ptr
 go_enter Try.func161, Try.ntmps161
 go_wp2
 go_ret
 exact ⟨_, rfl, rfl, (Below.refl _ _).alloc (Nat.le_refl _) _⟩
theorem calls162 {g : Nat} {n : Int} (hg : w.heap[g]? = some (.cells #[.int .i64 p, .int .i64 b, .int .i64 l, .int .i64 c] 158 (0, 0))) : Calls Try.prog 162 #[.agg #[ptr g, .int .i64 n]] w fun e w' => ∃ v, e = .returned v ∧ v = .int .i64 (wrap64 (b + wrap64 (wrap64 (n - 1) * l))) ∧ Below w.heap.size w w' := by
 have h1 : ∀ o, (w.alloc o).cell? ⟨g, 1, none⟩ = some (.int .i64 b) := fun o => pw_cell_below (below_alloc (Below.refl _ _) o) (blk_cell hg 1)
 have h2 : ∀ o, (w.alloc o).cell? ⟨g, 2, none⟩ = some (.int .i64 l) := fun o => pw_cell_below (below_alloc (Below.refl _ _) o) (blk_cell hg 2)
 unfold ptr
 go_enter Try.func162, Try.ntmps162
 go_wp2
 go_quiet (fail)
 go_wp2
 go_ret
 exact ⟨_, rfl, rfl, pw_below_drewN ((Below.refl _ _).alloc (Nat.le_refl _) _) _⟩
theorem calls163 {g : Nat} {n : Int} (hg : w.heap[g]? = some (.cells #[.int .i64 p, .int .i64 b, .int .i64 l, .int .i64 c] 158 (0, 0))) : Calls Try.prog 163 #[.agg #[ptr g, .int .i64 n]] w fun e w' => ∃ v, e = .returned v ∧ v = .int .i64 (wrap64 (n * c)) ∧ Below w.heap.size w w' := by
 have h3 : ∀ o, (w.alloc o).cell? ⟨g, 3, none⟩ = some (.int .i64 c) := fun o => pw_cell_below (below_alloc (Below.refl _ _) o) (blk_cell hg 3)
 unfold ptr
 go_enter Try.func163, Try.ntmps163
 go_wp2
 go_quiet (fail)
 go_wp2
 go_ret
 exact ⟨_, rfl, rfl, pw_below_drewN ((Below.refl _ _).alloc (Nat.le_refl _) _) _⟩
end
end Go.Ov
namespace Go.Proofs.Ytfgedbakbljgfaa.PBoldSheets
open Go.RowKit Go.Proofs.YtfgedbakbljgfaaW.PrintWords Go.Proofs.YtfgedbakbljgfaaW.PrintLast Go.Proofs.YtfgedbakbljgfaaW.PrintMore
attribute [local go_sem] max2_int min2_int max_two min_two max_three min_three max_four min_four
def IsS94 (w0 W : World) (g : Nat) (f0 : List Int) (f1 : Int) (f2 : Int) : Prop := ∃ A0 c0, W.heap[g]? = some (.cells #[.slice A0 f0.length c0, .int .i64 f1, .int .u64 f2] 94 (0, 0)) ∧ w0.heap.size ≤ g ∧ Kd.C (Kd.int .i64) w0 A0 f0.length f0
def wayzgoosekit_NewDice.f (l0 : List Int) : Option (List Int × Int × Int) := some (l0, 0, 11400714819323198485)
set_option maxHeartbeats 8000000 in
set_option maxRecDepth 100000 in
theorem wayzgoosekit_NewDice.calls (A0 : Option Addr) (c0 : Nat) (l0 : List Int) (r1 : List Int) (r2 : Int) (r3 : Int) (w0 w : World) (hB : Below w0.heap.size w0 w) (hr0 : Kd.C (Kd.int .i64) w0 A0 l0.length l0) (hc0 : l0.length ≤ c0) (h : wayzgoosekit_NewDice.f l0 = some (r1, r2, r3)) :
  Calls Try.prog 17 #[.slice A0 l0.length c0] w fun e w' => ∃ g_ : Nat, e = .returned (.pointer (some ⟨g_, 0, none⟩)) ∧ IsS94 w0 w' g_ r1 r2 r3 ∧ Below w0.heap.size w0 w' ∧ Below w.heap.size w w' := by
 have hu94 := Try.underlying94
 have HR0 := Aside0.mk hr0
 have HC0 := Aside0.mk hc0
 clear hr0 hc0
 have HBW := Aside0.mk (Below.refl w.heap.size w)
 have HW0 := Aside0.mk hB.size
 have HB := Aside0.mk hB
 clear hB
 have H : (some (l0, 0, 11400714819323198485)) = some (r1, r2, r3) := h
 clear h
 simp only [Option.some.injEq, Prod.mk.injEq] at H
 obtain ⟨rfl, rfl, rfl⟩ := H
 go_enter Try.func17, Try.ntmps17
 go_wp2_with (first | ((with_reducible refine gate_dst (N := 5) rfl ?_); refine box_event ?hg (N := 5) ?hd (cs := #[.slice A0 l0.length c0, .int .i64 0, .int .u64 11400714819323198485]) (t := 94) ?hr ?_; (case hd => rfl); (case hg => rfl); (case hr => first | (go_simp; done) | (go_simp; rfl)); intro gb101 hg w2 hbox hb; have n0_ := Aside0.mk (below_step HBW.out hb); have n1_ := Aside0.mk (below_step (by repeat (first | (with_reducible first | exact HB.out | apply below_alloc | apply pw_below_drewN | apply below_drew1) | exact HB.out)) hb); have n2_ := Aside0.mk (hbox); have n3_ := Aside0.mk ((by rw [hg]; exact (below_size (by repeat (first | (with_reducible first | exact HBW.out | apply below_alloc | apply pw_below_drewN | apply below_drew1) | exact HBW.out))) : w.heap.size ≤ gb101)); have n4_ := Aside0.mk ((Nat.le_trans HW0.out (by rw [hg]; exact (below_size (by repeat (first | (with_reducible first | exact HBW.out | apply below_alloc | apply pw_below_drewN | apply below_drew1) | exact HBW.out))) : w.heap.size ≤ gb101) : w0.heap.size ≤ gb101)); clear HBW; clear HB; have HBW := n0_; have HB := n1_; have BK101 := n2_; have GW101 := n3_; have GE101 := n4_; clear n0_ n1_ n2_ n3_ n4_; clear hb hbox hg))
 go_ret
 exact ⟨_, rfl, (show IsS94 w0 _ gb101 l0 0 11400714819323198485 from ⟨_, _, by (with_reducible repeat (first | refine blk_drewN ?_ _ | refine blk_drew ?_ | refine blk_alloc ?_ _)); exact BK101.out, GE101.out, HR0.out⟩), by repeat (first | (with_reducible first | exact HB.out | apply below_alloc | apply pw_below_drewN | apply below_drew1 | refine below_set ?_ GE101.out) | exact HB.out), by repeat (first | (with_reducible first | exact HBW.out | apply below_alloc | apply pw_below_drewN | apply below_drew1 | refine below_set ?_ GW101.out) | exact HBW.out)⟩
def bold_between.f (a0 : Int) (a1 : Int) (a2 : Int) : Option (Bool) := if a1 ≤ a0 then (some (decide (a0 ≤ a2))) else (some false)
set_option maxHeartbeats 8000000 in
set_option maxRecDepth 100000 in
theorem bold_between.calls (a0 : Int) (a1 : Int) (a2 : Int) (r : Bool) (w : World) (h : bold_between.f a0 a1 a2 = some r) :
  Calls Try.prog 61 #[.int .i64 a0, .int .i64 a1, .int .i64 a2] w fun e w' => e = .returned (.bool r) ∧ Drawn0 w w' := by
 have H : (if a1 ≤ a0 then (some (decide (a0 ≤ a2))) else (some false)) = some r := h
 clear h
 by_cases c4 : a1 ≤ a0
 ·rw [if_pos c4] at H
  have c4b0 : decide (a1 ≤ a0) = true := decide_eq_true c4
  clear c4
  obtain rfl := Option.some.inj H
  go_enter Try.func61, Try.ntmps61
  go_wp2
  go_ret
  exact ⟨by first | rfl | (simp; done) | (simp [*]; done), by repeat (first | exact Drawn0.refl _ | apply Drawn0.step)⟩
 ·rw [if_neg c4] at H
  have c4b0 : decide (a1 ≤ a0) = false := decide_eq_false c4
  clear c4
  obtain rfl := Option.some.inj H
  go_enter Try.func61, Try.ntmps61
  go_wp2
  go_ret
  exact ⟨by first | rfl | (simp; done) | (simp [*]; done), by repeat (first | exact Drawn0.refl _ | apply Drawn0.step)⟩
def bold_Sheets.f (a0 : Int) (a1 : Int) (a2 : Int) : Option (Int × Int × Int) := (bold_between.f a0 0 100000).bind fun jC => (if jC = true then ((bold_between.f a1 1 200).bind fun jB => (if jB = true then ((bold_between.f a2 1 64).bind fun jA => (if jA = true then (if (wrap64 (a1 * a2)) = 0 then (none) else (some (wrap64 (Int.tdiv (wrap64 ((wrap64 (a0 + (wrap64 (a1 * a2)))) - 1)) (wrap64 (a1 * a2))), wrap64 ((wrap64 ((wrap64 (Int.tdiv (wrap64 ((wrap64 (a0 + (wrap64 (a1 * a2)))) - 1)) (wrap64 (a1 * a2)))) * (wrap64 (a1 * a2)))) - a0), 0))) else (some (0, 0, 1)))) else (some (0, 0, 1)))) else (some (0, 0, 1)))
set_option maxHeartbeats 8000000 in
set_option maxRecDepth 100000 in
theorem bold_Sheets.calls (a0 : Int) (a1 : Int) (a2 : Int) (r1 : Int) (r2 : Int) (r3 : Int) (w : World) (h : bold_Sheets.f a0 a1 a2 = some (r1, r2, r3)) :
  Calls Try.prog 20 #[.int .i64 a0, .int .i64 a1, .int .i64 a2] w fun e w' => e = .returned (.tuple #[.int .i64 r1, .int .i64 r2, .int .i64 r3]) ∧ Drawn0 w w' := by
 have H : ((bold_between.f a0 0 100000).bind fun jC => (if jC = true then ((bold_between.f a1 1 200).bind fun jB => (if jB = true then ((bold_between.f a2 1 64).bind fun jA => (if jA = true then (if (wrap64 (a1 * a2)) = 0 then (none) else (some (wrap64 (Int.tdiv (wrap64 ((wrap64 (a0 + (wrap64 (a1 * a2)))) - 1)) (wrap64 (a1 * a2))), wrap64 ((wrap64 ((wrap64 (Int.tdiv (wrap64 ((wrap64 (a0 + (wrap64 (a1 * a2)))) - 1)) (wrap64 (a1 * a2)))) * (wrap64 (a1 * a2)))) - a0), 0))) else (some (0, 0, 1)))) else (some (0, 0, 1)))) else (some (0, 0, 1)))) = some (r1, r2, r3) := h
 clear h
 replace H := Option.bind_eq_some_iff.mp H
 obtain ⟨jC, A40, H⟩ := H
 replace H : (if jC = true then ((bold_between.f a1 1 200).bind fun jB => (if jB = true then ((bold_between.f a2 1 64).bind fun jA => (if jA = true then (if (wrap64 (a1 * a2)) = 0 then (none) else (some (wrap64 (Int.tdiv (wrap64 ((wrap64 (a0 + (wrap64 (a1 * a2)))) - 1)) (wrap64 (a1 * a2))), wrap64 ((wrap64 ((wrap64 (Int.tdiv (wrap64 ((wrap64 (a0 + (wrap64 (a1 * a2)))) - 1)) (wrap64 (a1 * a2)))) * (wrap64 (a1 * a2)))) - a0), 0))) else (some (0, 0, 1)))) else (some (0, 0, 1)))) else (some (0, 0, 1))) = some (r1, r2, r3) := H
 have A4 := Aside0.mk A40
 clear A40
 by_cases c5 : jC = true
 ·subst c5
  have H1 : ((bold_between.f a1 1 200).bind fun jB => (if jB = true then ((bold_between.f a2 1 64).bind fun jA => (if jA = true then (if (wrap64 (a1 * a2)) = 0 then (none) else (some (wrap64 (Int.tdiv (wrap64 ((wrap64 (a0 + (wrap64 (a1 * a2)))) - 1)) (wrap64 (a1 * a2))), wrap64 ((wrap64 ((wrap64 (Int.tdiv (wrap64 ((wrap64 (a0 + (wrap64 (a1 * a2)))) - 1)) (wrap64 (a1 * a2)))) * (wrap64 (a1 * a2)))) - a0), 0))) else (some (0, 0, 1)))) else (some (0, 0, 1)))) = some (r1, r2, r3) := by rw [if_pos rfl] at H; exact H
  clear H
  have H := H1
  clear H1
  replace H := Option.bind_eq_some_iff.mp H
  obtain ⟨jB, A60, H⟩ := H
  replace H : (if jB = true then ((bold_between.f a2 1 64).bind fun jA => (if jA = true then (if (wrap64 (a1 * a2)) = 0 then (none) else (some (wrap64 (Int.tdiv (wrap64 ((wrap64 (a0 + (wrap64 (a1 * a2)))) - 1)) (wrap64 (a1 * a2))), wrap64 ((wrap64 ((wrap64 (Int.tdiv (wrap64 ((wrap64 (a0 + (wrap64 (a1 * a2)))) - 1)) (wrap64 (a1 * a2)))) * (wrap64 (a1 * a2)))) - a0), 0))) else (some (0, 0, 1)))) else (some (0, 0, 1))) = some (r1, r2, r3) := H
  have A6 := Aside0.mk A60
  clear A60
  by_cases c7 : jB = true
  ·subst c7
   have H1 : ((bold_between.f a2 1 64).bind fun jA => (if jA = true then (if (wrap64 (a1 * a2)) = 0 then (none) else (some (wrap64 (Int.tdiv (wrap64 ((wrap64 (a0 + (wrap64 (a1 * a2)))) - 1)) (wrap64 (a1 * a2))), wrap64 ((wrap64 ((wrap64 (Int.tdiv (wrap64 ((wrap64 (a0 + (wrap64 (a1 * a2)))) - 1)) (wrap64 (a1 * a2)))) * (wrap64 (a1 * a2)))) - a0), 0))) else (some (0, 0, 1)))) = some (r1, r2, r3) := by rw [if_pos rfl] at H; exact H
   clear H
   have H := H1
   clear H1
   replace H := Option.bind_eq_some_iff.mp H
   obtain ⟨jA, A80, H⟩ := H
   replace H : (if jA = true then (if (wrap64 (a1 * a2)) = 0 then (none) else (some (wrap64 (Int.tdiv (wrap64 ((wrap64 (a0 + (wrap64 (a1 * a2)))) - 1)) (wrap64 (a1 * a2))), wrap64 ((wrap64 ((wrap64 (Int.tdiv (wrap64 ((wrap64 (a0 + (wrap64 (a1 * a2)))) - 1)) (wrap64 (a1 * a2)))) * (wrap64 (a1 * a2)))) - a0), 0))) else (some (0, 0, 1))) = some (r1, r2, r3) := H
   have A8 := Aside0.mk A80
   clear A80
   by_cases c9 : jA = true
   ·subst c9
    have H1 : (if (wrap64 (a1 * a2)) = 0 then (none) else (some (wrap64 (Int.tdiv (wrap64 ((wrap64 (a0 + (wrap64 (a1 * a2)))) - 1)) (wrap64 (a1 * a2))), wrap64 ((wrap64 ((wrap64 (Int.tdiv (wrap64 ((wrap64 (a0 + (wrap64 (a1 * a2)))) - 1)) (wrap64 (a1 * a2)))) * (wrap64 (a1 * a2)))) - a0), 0))) = some (r1, r2, r3) := by rw [if_pos rfl] at H; exact H
    clear H
    have H := H1
    clear H1
    by_cases c10 : (wrap64 (a1 * a2)) = 0
    ·rw [if_pos c10] at H
     exact absurd H (by simp)
    ·rw [if_neg c10] at H
     have c10b0 : ((wrap64 (a1 * a2)) == 0) = false := beq_eq_false_iff_ne.mpr c10
     have c10b1 : ((wrap64 (a1 * a2)) != 0) = true := bne_iff_ne.mpr c10
     simp only [Option.some.injEq, Prod.mk.injEq] at H
     obtain ⟨rfl, rfl, rfl⟩ := H
     go_enter Try.func20, Try.ntmps20
     go_wp2_with (first | ((with_reducible refine gate_callee (f := 61) rfl ?_); refine goesL_ (some 11) rfl rfl Try.func61 (by kernel_rfl) rfl #[.int .i64 a0, .int .i64 0, .int .i64 100000] rfl (by (try simp only [List.map_toArray, List.map_cons, List.map_nil]); first | done | rfl | (simp only [List.length_drop, List.length_take]; rfl)) ?_; (with_reducible refine (bold_between.calls a0 0 100000 true _ A4.out).mono ?_); rintro e w' ⟨rfl, ⟨nd, rfl⟩⟩; refine ⟨_, rfl, ?_⟩) | (go_at_call 61; (with_reducible refine (bold_between.calls a1 1 200 true _ A6.out).mono ?_); rintro e w' ⟨rfl, ⟨nd, rfl⟩⟩) | (go_at_call 61; (with_reducible refine (bold_between.calls a2 1 64 true _ A8.out).mono ?_); rintro e w' ⟨rfl, ⟨nd, rfl⟩⟩))
     go_ret3
     exact ⟨by first | rfl | (simp; done) | (simp [*]; done), by repeat (first | exact Drawn0.refl _ | apply Drawn0.step)⟩
   ·replace c9 := Bool.eq_false_iff.mpr c9
    subst c9
    have H1 : (some (0, 0, 1)) = some (r1, r2, r3) := by rw [if_neg (show ¬ (false = true) by decide)] at H; exact H
    clear H
    have H := H1
    clear H1
    simp only [Option.some.injEq, Prod.mk.injEq] at H
    obtain ⟨rfl, rfl, rfl⟩ := H
    go_enter Try.func20, Try.ntmps20
    go_wp2_with (first | ((with_reducible refine gate_callee (f := 61) rfl ?_); refine goesL_ (some 11) rfl rfl Try.func61 (by kernel_rfl) rfl #[.int .i64 a0, .int .i64 0, .int .i64 100000] rfl (by (try simp only [List.map_toArray, List.map_cons, List.map_nil]); first | done | rfl | (simp only [List.length_drop, List.length_take]; rfl)) ?_; (with_reducible refine (bold_between.calls a0 0 100000 true _ A4.out).mono ?_); rintro e w' ⟨rfl, ⟨nd, rfl⟩⟩; refine ⟨_, rfl, ?_⟩) | (go_at_call 61; (with_reducible refine (bold_between.calls a1 1 200 true _ A6.out).mono ?_); rintro e w' ⟨rfl, ⟨nd, rfl⟩⟩) | (go_at_call 61; (with_reducible refine (bold_between.calls a2 1 64 false _ A8.out).mono ?_); rintro e w' ⟨rfl, ⟨nd, rfl⟩⟩))
    go_ret3
    exact ⟨by first | rfl | (simp; done) | (simp [*]; done), by repeat (first | exact Drawn0.refl _ | apply Drawn0.step)⟩
  ·replace c7 := Bool.eq_false_iff.mpr c7
   subst c7
   have H1 : (some (0, 0, 1)) = some (r1, r2, r3) := by rw [if_neg (show ¬ (false = true) by decide)] at H; exact H
   clear H
   have H := H1
   clear H1
   simp only [Option.some.injEq, Prod.mk.injEq] at H
   obtain ⟨rfl, rfl, rfl⟩ := H
   go_enter Try.func20, Try.ntmps20
   go_wp2_with (first | ((with_reducible refine gate_callee (f := 61) rfl ?_); refine goesL_ (some 11) rfl rfl Try.func61 (by kernel_rfl) rfl #[.int .i64 a0, .int .i64 0, .int .i64 100000] rfl (by (try simp only [List.map_toArray, List.map_cons, List.map_nil]); first | done | rfl | (simp only [List.length_drop, List.length_take]; rfl)) ?_; (with_reducible refine (bold_between.calls a0 0 100000 true _ A4.out).mono ?_); rintro e w' ⟨rfl, ⟨nd, rfl⟩⟩; refine ⟨_, rfl, ?_⟩) | (go_at_call 61; (with_reducible refine (bold_between.calls a1 1 200 false _ A6.out).mono ?_); rintro e w' ⟨rfl, ⟨nd, rfl⟩⟩))
   go_ret3
   exact ⟨by first | rfl | (simp; done) | (simp [*]; done), by repeat (first | exact Drawn0.refl _ | apply Drawn0.step)⟩
 ·replace c5 := Bool.eq_false_iff.mpr c5
  subst c5
  have H1 : (some (0, 0, 1)) = some (r1, r2, r3) := by rw [if_neg (show ¬ (false = true) by decide)] at H; exact H
  clear H
  have H := H1
  clear H1
  simp only [Option.some.injEq, Prod.mk.injEq] at H
  obtain ⟨rfl, rfl, rfl⟩ := H
  go_enter Try.func20, Try.ntmps20
  go_wp2_with (first | ((with_reducible refine gate_callee (f := 61) rfl ?_); refine goesL_ (some 11) rfl rfl Try.func61 (by kernel_rfl) rfl #[.int .i64 a0, .int .i64 0, .int .i64 100000] rfl (by (try simp only [List.map_toArray, List.map_cons, List.map_nil]); first | done | rfl | (simp only [List.length_drop, List.length_take]; rfl)) ?_; (with_reducible refine (bold_between.calls a0 0 100000 false _ A4.out).mono ?_); rintro e w' ⟨rfl, ⟨nd, rfl⟩⟩; refine ⟨_, rfl, ?_⟩))
  go_ret3
  exact ⟨by first | rfl | (simp; done) | (simp [*]; done), by repeat (first | exact Drawn0.refl _ | apply Drawn0.step)⟩
def wayzgooseref09_within.f (a0 : Int) (a1 : Int) (a2 : Int) : Option (Bool) := if a0 ≥ a1 then (some (decide (a0 ≤ a2))) else (some false)
def wayzgooseref09_Sheets.f (a0 : Int) (a1 : Int) (a2 : Int) : Option (Int × Int × Int) := (wayzgooseref09_within.f a0 0 100000).bind fun jF => (if jF = true then ((wayzgooseref09_within.f a1 1 200).bind fun jE => (if jE = true then ((wayzgooseref09_within.f a2 1 64).bind fun jD => (if jD = true then (if (wrap64 (a1 * a2)) = 0 then (none) else (some (wrap64 (Int.tdiv (wrap64 ((wrap64 (a0 + (wrap64 (a1 * a2)))) - 1)) (wrap64 (a1 * a2))), wrap64 ((wrap64 ((wrap64 ((wrap64 (Int.tdiv (wrap64 ((wrap64 (a0 + (wrap64 (a1 * a2)))) - 1)) (wrap64 (a1 * a2)))) * a1)) * a2)) - a0), 0))) else (some (0, 0, 1)))) else (some (0, 0, 1)))) else (some (0, 0, 1)))
attribute [local go_sem] max2_int min2_int max_two min_two max_three min_three max_four min_four
def bold_sum.l0 : Nat → Int → List Int → Int → Int → Option (Int)
 | 0, _, _, _, _ => none
 | k + 1, x3, x6, x7, x8 => if x8 < x7 then (if 0 ≤ x8 then (if x8 < (x6.length : Int) then (bold_sum.l0 k (wrap64 (x3 + (rd x6 x8))) x6 x7 (wrap64 (x8 + 1))) else (none)) else (none)) else (some x3)
def bold_sum.f (k : Nat) (l0 : List Int) : Option (Int) := bold_sum.l0 k 0 l0 (l0.length : Int) 0
set_option maxHeartbeats 8000000 in
set_option maxRecDepth 100000 in
theorem bold_sum.calls (k : Nat) (A0 : Option Addr) (c0 : Nat) (l0 : List Int) (r : Int) (w : World) (hr0 : Kd.C (Kd.int .i64) w A0 l0.length l0) (hc0 : l0.length ≤ c0) (h : bold_sum.f k l0 = some r) :
  Calls Try.prog 71 #[.slice A0 l0.length c0] w fun e w' => e = .returned (.int .i64 r) ∧ Drawn0 w w' := by
 have HR0 := Aside0.mk hr0
 have HC0 := Aside0.mk hc0
 clear hr0 hc0
 have H : (bold_sum.l0 k 0 l0 (l0.length : Int) 0) = some r := h
 clear h
 have H' := Aside0.mk H
 clear H
 go_enter Try.func71, Try.ntmps71
 go_wp2
 go_loopg [3, 8] k (fun kq v3 v8 w' => ∃ (x3_1 : Int) (x8_1 : Int), v3 = .int .i64 x3_1 ∧ v8 = .int .i64 x8_1 ∧ Aside0 (bold_sum.l0 kq x3_1 l0 (l0.length : Int) x8_1 = some r) ∧ Aside0 (kq ≤ k) ∧ Drawn0 w w')
 case atStart => exact ⟨(0), (0), (by first | rfl | (simp; done) | (simp [*]; done)), (by first | rfl | (simp; done) | (simp [*]; done)), H', ⟨Nat.le_refl _⟩, by repeat (first | exact Drawn0.refl _ | apply Drawn0.step)⟩
 case round =>
  clear H'
  obtain ⟨x3_1, x8_1, rfl, rfl, HA, HK1, ⟨m1, rfl⟩⟩ := hrel
  cases gk with
  | zero => exact absurd HA.out (by simp [bold_sum.l0])
  | succ k1 =>
   have H := HA.out
   clear HA
   simp only [bold_sum.l0] at H
   by_cases c2 : x8_1 < (l0.length : Int)
   ·rw [if_pos c2] at H
    have c2b0 : decide (x8_1 < (l0.length : Int)) = true := decide_eq_true c2
    clear c2
    by_cases c3 : 0 ≤ x8_1
    ·rw [if_pos c3] at H
     have c3b0 : decide (0 ≤ x8_1) = true := decide_eq_true c3
     clear c3
     by_cases c4 : x8_1 < (l0.length : Int)
     ·rw [if_pos c4] at H
      have c4b0 : decide (x8_1 < (l0.length : Int)) = true := decide_eq_true c4
      clear c4
      have H' := Aside0.mk H
      clear H
      have p128 : 0 ≤ (x8_1 : Int) := of_decide_eq_true (by first | (with_reducible assumption) | assumption)
      have q128 : x8_1 < (l0.length : Int) := of_decide_eq_true (by first | (with_reducible assumption) | assumption)
      obtain ⟨ad128, e128, hx128_0⟩ := Kd.at_int HR0.out x8_1 p128 q128
      cases e128
      replace p128 := eq_true p128
      replace q128 := eq_true q128
      go_wp2
      go_roundg k1
      case measure => have := HK1.out; omega
      case rel => exact ⟨(wrap64 (x3_1 + (rd l0 x8_1))), (wrap64 (x8_1 + 1)), (by first | rfl | (simp; done) | (simp [*]; done)), (by first | rfl | (simp; done) | (simp [*]; done)), H', ⟨by have := HK1.out; omega⟩, by repeat (first | exact Drawn0.refl _ | apply Drawn0.step)⟩
     ·rw [if_neg c4] at H
      exact absurd H (by simp)
    ·rw [if_neg c3] at H
     exact absurd H (by simp)
   ·rw [if_neg c2] at H
    have c2b0 : decide (x8_1 < (l0.length : Int)) = false := decide_eq_false c2
    clear c2
    obtain rfl := Option.some.inj H
    go_wp2
    go_ret
    exact ⟨by first | rfl | (simp; done) | (simp [*]; done), by repeat (first | exact Drawn0.refl _ | apply Drawn0.step)⟩
def slices_Index_int_int.l0 : Nat → List Int → Int → Int → Int → Option (Int)
 | 0, _, _, _, _ => none
 | k + 1, x0, x1, x7, x8 => if x8 < x7 then (if 0 ≤ x8 then (if x8 < (x0.length : Int) then (if x1 = (rd x0 x8) then (some x8) else (slices_Index_int_int.l0 k x0 x1 x7 (wrap64 (x8 + 1)))) else (none)) else (none)) else (some (-1))
def slices_Index_int_int.f (k : Nat) (l0 : List Int) (a1 : Int) : Option (Int) := slices_Index_int_int.l0 k l0 a1 (l0.length : Int) 0
set_option maxHeartbeats 8000000 in
set_option maxRecDepth 100000 in
theorem slices_Index_int_int.calls (k : Nat) (A0 : Option Addr) (c0 : Nat) (l0 : List Int) (a1 : Int) (r : Int) (w : World) (hr0 : Kd.C (Kd.int .i64) w A0 l0.length l0) (hc0 : l0.length ≤ c0) (h : slices_Index_int_int.f k l0 a1 = some r) :
  Calls Try.prog 139 #[.slice A0 l0.length c0, .int .i64 a1] w fun e w' => e = .returned (.int .i64 r) ∧ Drawn0 w w' := by
 have HR0 := Aside0.mk hr0
 have HC0 := Aside0.mk hc0
 clear hr0 hc0
 have H : (slices_Index_int_int.l0 k l0 a1 (l0.length : Int) 0) = some r := h
 clear h
 have H' := Aside0.mk H
 clear H
 go_enter Try.func139, Try.ntmps139
 go_wp2
 go_loopg [8] k (fun kq v8 w' => ∃ (x8_1 : Int), v8 = .int .i64 x8_1 ∧ Aside0 (slices_Index_int_int.l0 kq l0 a1 (l0.length : Int) x8_1 = some r) ∧ Aside0 (kq ≤ k) ∧ Drawn0 w w')
 case atStart => exact ⟨(0), (by first | rfl | (simp; done) | (simp [*]; done)), H', ⟨Nat.le_refl _⟩, by repeat (first | exact Drawn0.refl _ | apply Drawn0.step)⟩
 case round =>
  clear H'
  try clear c1
  try clear p2
  obtain ⟨x8_1, rfl, HA, HK1, ⟨m1, rfl⟩⟩ := hrel
  cases gk with
  | zero => exact absurd HA.out (by simp [slices_Index_int_int.l0])
  | succ k1 =>
   have H := HA.out
   clear HA
   simp only [slices_Index_int_int.l0] at H
   by_cases c3 : x8_1 < (l0.length : Int)
   ·rw [if_pos c3] at H
    have c3b0 : decide (x8_1 < (l0.length : Int)) = true := decide_eq_true c3
    clear c3
    by_cases c4 : 0 ≤ x8_1
    ·rw [if_pos c4] at H
     have c4b0 : decide (0 ≤ x8_1) = true := decide_eq_true c4
     clear c4
     by_cases c5 : x8_1 < (l0.length : Int)
     ·rw [if_pos c5] at H
      have c5b0 : decide (x8_1 < (l0.length : Int)) = true := decide_eq_true c5
      clear c5
      by_cases c6 : a1 = (rd l0 x8_1)
      ·rw [if_pos c6] at H
       have c6b0 : (a1 == (rd l0 x8_1)) = true := beq_iff_eq.mpr c6
       have c6b1 : (a1 != (rd l0 x8_1)) = false := bne_eq_false_iff_eq.mpr c6
       clear c6
       obtain rfl := Option.some.inj H
       have p130 : 0 ≤ (x8_1 : Int) := of_decide_eq_true (by first | (with_reducible assumption) | assumption)
       have q130 : x8_1 < (l0.length : Int) := of_decide_eq_true (by first | (with_reducible assumption) | assumption)
       obtain ⟨ad130, e130, hx130_0⟩ := Kd.at_int HR0.out x8_1 p130 q130
       cases e130
       replace p130 := eq_true p130
       replace q130 := eq_true q130
       go_wp2
       go_ret
       exact ⟨by first | rfl | (simp; done) | (simp [*]; done), by repeat (first | exact Drawn0.refl _ | apply Drawn0.step)⟩
      ·rw [if_neg c6] at H
       have c6b0 : (a1 == (rd l0 x8_1)) = false := beq_eq_false_iff_ne.mpr c6
       have c6b1 : (a1 != (rd l0 x8_1)) = true := bne_iff_ne.mpr c6
       have H' := Aside0.mk H
       clear H
       have p130 : 0 ≤ (x8_1 : Int) := of_decide_eq_true (by first | (with_reducible assumption) | assumption)
       have q130 : x8_1 < (l0.length : Int) := of_decide_eq_true (by first | (with_reducible assumption) | assumption)
       obtain ⟨ad130, e130, hx130_0⟩ := Kd.at_int HR0.out x8_1 p130 q130
       cases e130
       replace p130 := eq_true p130
       replace q130 := eq_true q130
       go_wp2
       go_roundg k1
       case measure => have := HK1.out; omega
       case rel => exact ⟨(wrap64 (x8_1 + 1)), (by first | rfl | (simp; done) | (simp [*]; done)), H', ⟨by have := HK1.out; omega⟩, by repeat (first | exact Drawn0.refl _ | apply Drawn0.step)⟩
     ·rw [if_neg c5] at H
      exact absurd H (by simp)
    ·rw [if_neg c4] at H
     exact absurd H (by simp)
   ·rw [if_neg c3] at H
    have c3b0 : decide (x8_1 < (l0.length : Int)) = false := decide_eq_false c3
    clear c3
    obtain rfl := Option.some.inj H
    go_wp2
    go_ret
    exact ⟨by first | rfl | (simp; done) | (simp [*]; done), by repeat (first | exact Drawn0.refl _ | apply Drawn0.step)⟩
def slices_Contains_int_int.f (k : Nat) (l0 : List Int) (a1 : Int) : Option (Bool) := (slices_Index_int_int.f k l0 a1).bind fun jC => (some (decide (jC ≥ 0)))
set_option maxHeartbeats 8000000 in
set_option maxRecDepth 100000 in
theorem slices_Contains_int_int.calls (k : Nat) (A0 : Option Addr) (c0 : Nat) (l0 : List Int) (a1 : Int) (r : Bool) (w : World) (hr0 : Kd.C (Kd.int .i64) w A0 l0.length l0) (hc0 : l0.length ≤ c0) (h : slices_Contains_int_int.f k l0 a1 = some r) :
  Calls Try.prog 129 #[.slice A0 l0.length c0, .int .i64 a1] w fun e w' => e = .returned (.bool r) ∧ Drawn0 w w' := by
 have HR0 := Aside0.mk hr0
 have HC0 := Aside0.mk hc0
 clear hr0 hc0
 have H : ((slices_Index_int_int.f k l0 a1).bind fun jC => (some (decide (jC ≥ 0)))) = some r := h
 clear h
 replace H := Option.bind_eq_some_iff.mp H
 obtain ⟨jC, A30, H⟩ := H
 replace H : (some (decide (jC ≥ 0))) = some r := H
 have A3 := Aside0.mk A30
 clear A30
 obtain rfl := Option.some.inj H
 go_enter Try.func129, Try.ntmps129
 go_wp2_with (first | ((with_reducible refine gate_callee (f := 139) rfl ?_); refine goesL_ (some 7) rfl rfl Try.func139 (by kernel_rfl) rfl #[.slice A0 l0.length c0, .int .i64 a1] rfl (by (try simp only [List.map_toArray, List.map_cons, List.map_nil]); first | done | rfl | (simp only [List.length_drop, List.length_take]; rfl)) ?_; (with_reducible refine (slices_Index_int_int.calls k _ _ l0 a1 jC _ ?side1 ?side2 A3.out).mono ?_); (case side1 => repeat (first | exact HR0.out | (with_reducible refine Kd.C_alloc ?_ _) | (with_reducible refine Kd.C_drewN ?_ _) | (with_reducible refine Kd.C_drew ?_))); (case side2 => exact HC0.out); rintro e w' ⟨rfl, ⟨nd, rfl⟩⟩; refine ⟨_, rfl, ?_⟩))
 go_ret
 exact ⟨by first | rfl | (simp; done) | (simp [*]; done), by repeat (first | exact Drawn0.refl _ | apply Drawn0.step)⟩
def bold_cardsError.l0 : Nat → Int → List (S107) → Int → Int → Option (Int)
 | 0, _, _, _, _ => none
 | k + 1, x1, x10, x11, x12 => if x12 < x11 then (if 0 ≤ x12 then (if x12 < (x10.length : Int) then ((bold_between.f ((rd_T107 x10 x12).f0) 1 20).bind fun jE => (if jE = true then ((bold_between.f ((rd_T107 x10 x12).f1) 0 999).bind fun jA => (if jA = true then (bold_cardsError.l0 k x1 x10 x11 (wrap64 (x12 + 1))) else (some 1))) else (some 1))) else (none)) else (none)) else ((bold_between.f x1 0 60).bind fun jD => (if jD = true then (some 0) else (some 1)))
def bold_cardsError.f (k : Nat) (l0 : List (S107)) (a1 : Int) : Option (Int) := if (l0.length : Int) > 8 then (some 6) else (bold_cardsError.l0 k a1 l0 (l0.length : Int) 0)
set_option maxHeartbeats 8000000 in
set_option maxRecDepth 100000 in
theorem bold_cardsError.calls (k : Nat) (A0 : Option Addr) (c0 : Nat) (l0 : List (S107)) (a1 : Int) (r : Int) (w : World) (hr0 : Kd.C k107 w A0 l0.length l0) (hc0 : l0.length ≤ c0) (h : bold_cardsError.f k l0 a1 = some r) :
  Calls Try.prog 74 #[.slice A0 l0.length c0, .int .i64 a1] w fun e w' => e = .returned (.int .i64 r) ∧ Below w.heap.size w w' := by
 have hu107 := Try.underlying107
 have HR0 := Aside0.mk hr0
 have HC0 := Aside0.mk hc0
 clear hr0 hc0
 have HB := Aside0.mk (Below.refl w.heap.size w)
 have H : (if (l0.length : Int) > 8 then (some 6) else (bold_cardsError.l0 k a1 l0 (l0.length : Int) 0)) = some r := h
 clear h
 by_cases c3 : (l0.length : Int) > 8
 ·rw [if_pos c3] at H
  have c3b0 : decide (8 < (l0.length : Int)) = true := decide_eq_true c3
  have c3b1 : decide (8 < l0.length) = true := decide_eq_true (by omega)
  clear c3
  obtain rfl := Option.some.inj H
  go_enter Try.func74, Try.ntmps74
  go_wp2
  go_ret
  exact ⟨by first | rfl | (simp [errW_none, errW_some] <;> rfl) | (simp [*, errW_none, errW_some] <;> rfl), by repeat (first | (with_reducible first | exact HB.out | apply below_alloc | apply pw_below_drewN | apply below_drew1) | exact HB.out)⟩
 ·rw [if_neg c3] at H
  have c3b0 : decide (8 < (l0.length : Int)) = false := decide_eq_false c3
  have c3b1 : decide (8 < l0.length) = false := decide_eq_false (by omega)
  clear c3
  have H' := Aside0.mk H
  clear H
  go_enter Try.func74, Try.ntmps74
  go_wp2
  go_loopg [12] k (fun kq v12 w' => ∃ (x12_1 : Int), v12 = .int .i64 x12_1 ∧ Aside0 (bold_cardsError.l0 kq a1 l0 (l0.length : Int) x12_1 = some r) ∧ Aside0 (kq ≤ k) ∧ Aside0 (Below w.heap.size w w'))
  case atStart => exact ⟨(0), (by first | rfl | (simp; done) | (simp [*]; done)), H', ⟨Nat.le_refl _⟩, ⟨by repeat (first | (with_reducible first | exact HB.out | apply below_alloc | apply pw_below_drewN | apply below_drew1) | exact HB.out)⟩⟩
  case round =>
   clear H'
   try clear p2
   try clear c3
   try clear c3b0
   try clear c3b1
   obtain ⟨x12_1, rfl, HA, HK1, HB⟩ := hrel
   cases gk with
   | zero => exact absurd HA.out (by simp [bold_cardsError.l0])
   | succ k1 =>
    have H := HA.out
    clear HA
    simp only [bold_cardsError.l0] at H
    by_cases c4 : x12_1 < (l0.length : Int)
    ·rw [if_pos c4] at H
     have c4b0 : decide (x12_1 < (l0.length : Int)) = true := decide_eq_true c4
     clear c4
     by_cases c5 : 0 ≤ x12_1
     ·rw [if_pos c5] at H
      have c5b0 : decide (0 ≤ x12_1) = true := decide_eq_true c5
      clear c5
      by_cases c6 : x12_1 < (l0.length : Int)
      ·rw [if_pos c6] at H
       have c6b0 : decide (x12_1 < (l0.length : Int)) = true := decide_eq_true c6
       clear c6
       replace H := Option.bind_eq_some_iff.mp H
       obtain ⟨jE, A70, H⟩ := H
       replace H : (if jE = true then ((bold_between.f ((rd_T107 l0 x12_1).f1) 0 999).bind fun jA => (if jA = true then (bold_cardsError.l0 k1 a1 l0 (l0.length : Int) (wrap64 (x12_1 + 1))) else (some 1))) else (some 1)) = some r := H
       have A7 := Aside0.mk A70
       clear A70
       by_cases c8 : jE = true
       ·subst c8
        have H1 : ((bold_between.f ((rd_T107 l0 x12_1).f1) 0 999).bind fun jA => (if jA = true then (bold_cardsError.l0 k1 a1 l0 (l0.length : Int) (wrap64 (x12_1 + 1))) else (some 1))) = some r := by rw [if_pos rfl] at H; exact H
        clear H
        have H := H1
        clear H1
        replace H := Option.bind_eq_some_iff.mp H
        obtain ⟨jA, A90, H⟩ := H
        replace H : (if jA = true then (bold_cardsError.l0 k1 a1 l0 (l0.length : Int) (wrap64 (x12_1 + 1))) else (some 1)) = some r := H
        have A9 := Aside0.mk A90
        clear A90
        by_cases c10 : jA = true
        ·subst c10
         have H1 : (bold_cardsError.l0 k1 a1 l0 (l0.length : Int) (wrap64 (x12_1 + 1))) = some r := by rw [if_pos rfl] at H; exact H
         clear H
         have H := H1
         clear H1
         have H' := Aside0.mk H
         clear H
         have p143 : 0 ≤ (x12_1 : Int) := of_decide_eq_true (by first | (with_reducible assumption) | assumption)
         have q143 : x12_1 < (l0.length : Int) := of_decide_eq_true (by first | (with_reducible assumption) | assumption)
         obtain ⟨ad143, e143, hx143_0, hx143_1⟩ := at_T107 HR0.out x12_1 p143 q143
         cases e143
         replace hx143_0 := (HB.out.cell (World.block_lt_of_cell? w _ hx143_0)).trans hx143_0
         replace hx143_1 := (HB.out.cell (World.block_lt_of_cell? w _ hx143_1)).trans hx143_1
         replace p143 := eq_true p143
         replace q143 := eq_true q143
         go_wp2_with (first | ((with_reducible refine gate_dst (N := 6) rfl ?_); refine box_event ?hg (N := 6) ?hd (cs := #[.int .i64 0, .int .i64 0]) (t := 107) ?hr ?_; (case hd => rfl); (case hg => rfl); (case hr => first | (go_simp; done) | (go_simp; rfl)); intro gb144 hg w11 hbox hb; have n0_ := Aside0.mk (below_step (by repeat (first | (with_reducible first | exact HB.out | apply below_alloc | apply pw_below_drewN | apply below_drew1) | exact HB.out)) hb); have n1_ := Aside0.mk (hbox); have n2_ := Aside0.mk ((by rw [hg]; exact (below_size (by repeat (first | (with_reducible first | exact HB.out | apply below_alloc | apply pw_below_drewN | apply below_drew1) | exact HB.out))) : w.heap.size ≤ gb144)); have n3_ := Aside0.mk ((by rw [hg]; exact (below_size (by repeat (first | (with_reducible first | exact HB.out | apply below_alloc | apply pw_below_drewN | apply below_drew1) | exact HB.out))) : w.heap.size ≤ gb144)); clear HB; have HB := n0_; have BK144 := n1_; have GW144 := n2_; have GE144 := n3_; clear n0_ n1_ n2_ n3_; clear hb hbox hg; have hcz12_0 : w11.cell? ⟨gb144, 0, none⟩ = some (.int .i64 0) := (blk_cell BK144.out 0).trans rfl; have hcz12_1 : w11.cell? ⟨gb144, 1, none⟩ = some (.int .i64 0) := (blk_cell BK144.out 1).trans rfl; have hfz12_0 := blk_frozen BK144.out 0; have hfz12_1 := blk_frozen BK144.out 1) | ((with_reducible refine gate_callee (f := 61) rfl ?_); refine goesL_ (some 18) rfl rfl Try.func61 (by kernel_rfl) rfl #[.int .i64 ((rd_T107 l0 x12_1).f0), .int .i64 1, .int .i64 20] rfl (by (try simp only [List.map_toArray, List.map_cons, List.map_nil]); first | done | rfl | (simp only [List.length_drop, List.length_take]; rfl)) ?_; (with_reducible refine (bold_between.calls ((rd_T107 l0 x12_1).f0) 1 20 true _ A7.out).mono ?_); rintro e w' ⟨rfl, ⟨nd, rfl⟩⟩; refine ⟨_, rfl, ?_⟩) | (go_at_call 61; (with_reducible refine (bold_between.calls ((rd_T107 l0 x12_1).f1) 0 999 true _ A9.out).mono ?_); rintro e w' ⟨rfl, ⟨nd, rfl⟩⟩))
         go_roundg k1
         case measure => have := HK1.out; omega
         case rel => exact ⟨(wrap64 (x12_1 + 1)), (by first | rfl | (simp; done) | (simp [*]; done)), H', ⟨by have := HK1.out; omega⟩, ⟨by repeat (first | (with_reducible first | exact HB.out | apply below_alloc | apply pw_below_drewN | apply below_drew1 | refine below_set ?_ GE144.out) | exact HB.out)⟩⟩
        ·replace c10 := Bool.eq_false_iff.mpr c10
         subst c10
         have H1 : (some 1) = some r := by rw [if_neg (show ¬ (false = true) by decide)] at H; exact H
         clear H
         have H := H1
         clear H1
         obtain rfl := Option.some.inj H
         have p143 : 0 ≤ (x12_1 : Int) := of_decide_eq_true (by first | (with_reducible assumption) | assumption)
         have q143 : x12_1 < (l0.length : Int) := of_decide_eq_true (by first | (with_reducible assumption) | assumption)
         obtain ⟨ad143, e143, hx143_0, hx143_1⟩ := at_T107 HR0.out x12_1 p143 q143
         cases e143
         replace hx143_0 := (HB.out.cell (World.block_lt_of_cell? w _ hx143_0)).trans hx143_0
         replace hx143_1 := (HB.out.cell (World.block_lt_of_cell? w _ hx143_1)).trans hx143_1
         replace p143 := eq_true p143
         replace q143 := eq_true q143
         go_wp2_with (first | ((with_reducible refine gate_dst (N := 6) rfl ?_); refine box_event ?hg (N := 6) ?hd (cs := #[.int .i64 0, .int .i64 0]) (t := 107) ?hr ?_; (case hd => rfl); (case hg => rfl); (case hr => first | (go_simp; done) | (go_simp; rfl)); intro gb144 hg w13 hbox hb; have n0_ := Aside0.mk (below_step (by repeat (first | (with_reducible first | exact HB.out | apply below_alloc | apply pw_below_drewN | apply below_drew1) | exact HB.out)) hb); have n1_ := Aside0.mk (hbox); have n2_ := Aside0.mk ((by rw [hg]; exact (below_size (by repeat (first | (with_reducible first | exact HB.out | apply below_alloc | apply pw_below_drewN | apply below_drew1) | exact HB.out))) : w.heap.size ≤ gb144)); have n3_ := Aside0.mk ((by rw [hg]; exact (below_size (by repeat (first | (with_reducible first | exact HB.out | apply below_alloc | apply pw_below_drewN | apply below_drew1) | exact HB.out))) : w.heap.size ≤ gb144)); clear HB; have HB := n0_; have BK144 := n1_; have GW144 := n2_; have GE144 := n3_; clear n0_ n1_ n2_ n3_; clear hb hbox hg; have hcz14_0 : w13.cell? ⟨gb144, 0, none⟩ = some (.int .i64 0) := (blk_cell BK144.out 0).trans rfl; have hcz14_1 : w13.cell? ⟨gb144, 1, none⟩ = some (.int .i64 0) := (blk_cell BK144.out 1).trans rfl; have hfz14_0 := blk_frozen BK144.out 0; have hfz14_1 := blk_frozen BK144.out 1) | ((with_reducible refine gate_callee (f := 61) rfl ?_); refine goesL_ (some 18) rfl rfl Try.func61 (by kernel_rfl) rfl #[.int .i64 ((rd_T107 l0 x12_1).f0), .int .i64 1, .int .i64 20] rfl (by (try simp only [List.map_toArray, List.map_cons, List.map_nil]); first | done | rfl | (simp only [List.length_drop, List.length_take]; rfl)) ?_; (with_reducible refine (bold_between.calls ((rd_T107 l0 x12_1).f0) 1 20 true _ A7.out).mono ?_); rintro e w' ⟨rfl, ⟨nd, rfl⟩⟩; refine ⟨_, rfl, ?_⟩) | (go_at_call 61; (with_reducible refine (bold_between.calls ((rd_T107 l0 x12_1).f1) 0 999 false _ A9.out).mono ?_); rintro e w' ⟨rfl, ⟨nd, rfl⟩⟩))
         go_ret
         exact ⟨by first | rfl | (simp [errW_none, errW_some] <;> rfl) | (simp [*, errW_none, errW_some] <;> rfl), by repeat (first | (with_reducible first | exact HB.out | apply below_alloc | apply pw_below_drewN | apply below_drew1 | refine below_set ?_ GE144.out) | exact HB.out)⟩
       ·replace c8 := Bool.eq_false_iff.mpr c8
        subst c8
        have H1 : (some 1) = some r := by rw [if_neg (show ¬ (false = true) by decide)] at H; exact H
        clear H
        have H := H1
        clear H1
        obtain rfl := Option.some.inj H
        have p143 : 0 ≤ (x12_1 : Int) := of_decide_eq_true (by first | (with_reducible assumption) | assumption)
        have q143 : x12_1 < (l0.length : Int) := of_decide_eq_true (by first | (with_reducible assumption) | assumption)
        obtain ⟨ad143, e143, hx143_0, hx143_1⟩ := at_T107 HR0.out x12_1 p143 q143
        cases e143
        replace hx143_0 := (HB.out.cell (World.block_lt_of_cell? w _ hx143_0)).trans hx143_0
        replace hx143_1 := (HB.out.cell (World.block_lt_of_cell? w _ hx143_1)).trans hx143_1
        replace p143 := eq_true p143
        replace q143 := eq_true q143
        go_wp2_with (first | ((with_reducible refine gate_dst (N := 6) rfl ?_); refine box_event ?hg (N := 6) ?hd (cs := #[.int .i64 0, .int .i64 0]) (t := 107) ?hr ?_; (case hd => rfl); (case hg => rfl); (case hr => first | (go_simp; done) | (go_simp; rfl)); intro gb144 hg w15 hbox hb; have n0_ := Aside0.mk (below_step (by repeat (first | (with_reducible first | exact HB.out | apply below_alloc | apply pw_below_drewN | apply below_drew1) | exact HB.out)) hb); have n1_ := Aside0.mk (hbox); have n2_ := Aside0.mk ((by rw [hg]; exact (below_size (by repeat (first | (with_reducible first | exact HB.out | apply below_alloc | apply pw_below_drewN | apply below_drew1) | exact HB.out))) : w.heap.size ≤ gb144)); have n3_ := Aside0.mk ((by rw [hg]; exact (below_size (by repeat (first | (with_reducible first | exact HB.out | apply below_alloc | apply pw_below_drewN | apply below_drew1) | exact HB.out))) : w.heap.size ≤ gb144)); clear HB; have HB := n0_; have BK144 := n1_; have GW144 := n2_; have GE144 := n3_; clear n0_ n1_ n2_ n3_; clear hb hbox hg; have hcz16_0 : w15.cell? ⟨gb144, 0, none⟩ = some (.int .i64 0) := (blk_cell BK144.out 0).trans rfl; have hcz16_1 : w15.cell? ⟨gb144, 1, none⟩ = some (.int .i64 0) := (blk_cell BK144.out 1).trans rfl; have hfz16_0 := blk_frozen BK144.out 0; have hfz16_1 := blk_frozen BK144.out 1) | ((with_reducible refine gate_callee (f := 61) rfl ?_); refine goesL_ (some 18) rfl rfl Try.func61 (by kernel_rfl) rfl #[.int .i64 ((rd_T107 l0 x12_1).f0), .int .i64 1, .int .i64 20] rfl (by (try simp only [List.map_toArray, List.map_cons, List.map_nil]); first | done | rfl | (simp only [List.length_drop, List.length_take]; rfl)) ?_; (with_reducible refine (bold_between.calls ((rd_T107 l0 x12_1).f0) 1 20 false _ A7.out).mono ?_); rintro e w' ⟨rfl, ⟨nd, rfl⟩⟩; refine ⟨_, rfl, ?_⟩))
        go_ret
        exact ⟨by first | rfl | (simp [errW_none, errW_some] <;> rfl) | (simp [*, errW_none, errW_some] <;> rfl), by repeat (first | (with_reducible first | exact HB.out | apply below_alloc | apply pw_below_drewN | apply below_drew1 | refine below_set ?_ GE144.out) | exact HB.out)⟩
      ·rw [if_neg c6] at H
       exact absurd H (by simp)
     ·rw [if_neg c5] at H
      exact absurd H (by simp)
    ·rw [if_neg c4] at H
     have c4b0 : decide (x12_1 < (l0.length : Int)) = false := decide_eq_false c4
     clear c4
     replace H := Option.bind_eq_some_iff.mp H
     obtain ⟨jD, A170, H⟩ := H
     replace H : (if jD = true then (some 0) else (some 1)) = some r := H
     have A17 := Aside0.mk A170
     clear A170
     by_cases c18 : jD = true
     ·subst c18
      have H1 : (some 0) = some r := by rw [if_pos rfl] at H; exact H
      clear H
      have H := H1
      clear H1
      obtain rfl := Option.some.inj H
      go_wp2_with (first | ((with_reducible refine gate_callee (f := 61) rfl ?_); refine goesL_ (some 28) rfl rfl Try.func61 (by kernel_rfl) rfl #[.int .i64 a1, .int .i64 0, .int .i64 60] rfl (by (try simp only [List.map_toArray, List.map_cons, List.map_nil]); first | done | rfl | (simp only [List.length_drop, List.length_take]; rfl)) ?_; (with_reducible refine (bold_between.calls a1 0 60 true _ A17.out).mono ?_); rintro e w' ⟨rfl, ⟨nd, rfl⟩⟩; refine ⟨_, rfl, ?_⟩))
      go_ret
      exact ⟨by first | rfl | (simp [errW_none, errW_some] <;> rfl) | (simp [*, errW_none, errW_some] <;> rfl), by repeat (first | (with_reducible first | exact HB.out | apply below_alloc | apply pw_below_drewN | apply below_drew1) | exact HB.out)⟩
     ·replace c18 := Bool.eq_false_iff.mpr c18
      subst c18
      have H1 : (some 1) = some r := by rw [if_neg (show ¬ (false = true) by decide)] at H; exact H
      clear H
      have H := H1
      clear H1
      obtain rfl := Option.some.inj H
      go_wp2_with (first | ((with_reducible refine gate_callee (f := 61) rfl ?_); refine goesL_ (some 28) rfl rfl Try.func61 (by kernel_rfl) rfl #[.int .i64 a1, .int .i64 0, .int .i64 60] rfl (by (try simp only [List.map_toArray, List.map_cons, List.map_nil]); first | done | rfl | (simp only [List.length_drop, List.length_take]; rfl)) ?_; (with_reducible refine (bold_between.calls a1 0 60 false _ A17.out).mono ?_); rintro e w' ⟨rfl, ⟨nd, rfl⟩⟩; refine ⟨_, rfl, ?_⟩))
      go_ret
      exact ⟨by first | rfl | (simp [errW_none, errW_some] <;> rfl) | (simp [*, errW_none, errW_some] <;> rfl), by repeat (first | (with_reducible first | exact HB.out | apply below_alloc | apply pw_below_drewN | apply below_drew1) | exact HB.out)⟩
def wayzgoosekit_EqInts.l0 : Nat → List Int → List Int → Int → Option (Bool)
 | 0, _, _, _ => none
 | k + 1, x0, x1, x5 => if x5 < (x0.length : Int) then (if 0 ≤ x5 then (if x5 < (x1.length : Int) then (if (rd x0 x5) = (rd x1 x5) then (wayzgoosekit_EqInts.l0 k x0 x1 (wrap64 (x5 + 1))) else (some false)) else (none)) else (none)) else (some true)
def wayzgoosekit_EqInts.f (k : Nat) (l0 : List Int) (l1 : List Int) : Option (Bool) := if (l0.length : Int) = (l1.length : Int) then (wayzgoosekit_EqInts.l0 k l0 l1 0) else (some false)
set_option maxHeartbeats 8000000 in
set_option maxRecDepth 100000 in
theorem wayzgoosekit_EqInts.calls (k : Nat) (A0 : Option Addr) (c0 : Nat) (l0 : List Int) (A1 : Option Addr) (c1 : Nat) (l1 : List Int) (r : Bool) (w : World) (hr0 : Kd.C (Kd.int .i64) w A0 l0.length l0) (hc0 : l0.length ≤ c0) (hr1 : Kd.C (Kd.int .i64) w A1 l1.length l1) (hc1 : l1.length ≤ c1) (h : wayzgoosekit_EqInts.f k l0 l1 = some r) :
  Calls Try.prog 35 #[.slice A0 l0.length c0, .slice A1 l1.length c1] w fun e w' => e = .returned (.bool r) ∧ Drawn0 w w' := by
 have HR0 := Aside0.mk hr0
 have HC0 := Aside0.mk hc0
 clear hr0 hc0
 have HR1 := Aside0.mk hr1
 have HC1 := Aside0.mk hc1
 clear hr1 hc1
 have H : (if (l0.length : Int) = (l1.length : Int) then (wayzgoosekit_EqInts.l0 k l0 l1 0) else (some false)) = some r := h
 clear h
 by_cases c3 : (l0.length : Int) = (l1.length : Int)
 ·rw [if_pos c3] at H
  have c3b0 : ((l0.length : Int) == (l1.length : Int)) = true := beq_iff_eq.mpr c3
  have c3b1 : ((l0.length : Int) != (l1.length : Int)) = false := bne_eq_false_iff_eq.mpr c3
  have c3b2 : (l0.length == l1.length) = true := by first | simpa using c3 | (simp at c3 ⊢; omega)
  clear c3
  have H' := Aside0.mk H
  clear H
  go_enter Try.func35, Try.ntmps35
  go_wp2
  repeat (go_quiet (fail); try go_wp2)
  go_loopg [5] k (fun kq v5 w' => ∃ (x5_1 : Int), v5 = .int .i64 x5_1 ∧ Aside0 (wayzgoosekit_EqInts.l0 kq l0 l1 x5_1 = some r) ∧ Aside0 (kq ≤ k) ∧ Drawn0 w w')
  case atStart => exact ⟨(0), (by first | rfl | (simp; done) | (simp [*]; done)), H', ⟨Nat.le_refl _⟩, by repeat (first | exact Drawn0.refl _ | apply Drawn0.step)⟩
  case round =>
   clear H'
   try clear c1
   try clear p2
   try clear c3
   try clear c3b0
   try clear c3b1
   try clear c3b2
   obtain ⟨x5_1, rfl, HA, HK1, ⟨m1, rfl⟩⟩ := hrel
   cases gk with
   | zero => exact absurd HA.out (by simp [wayzgoosekit_EqInts.l0])
   | succ k1 =>
    have H := HA.out
    clear HA
    simp only [wayzgoosekit_EqInts.l0] at H
    by_cases c4 : x5_1 < (l0.length : Int)
    ·rw [if_pos c4] at H
     have c4b0 : decide (x5_1 < (l0.length : Int)) = true := decide_eq_true c4
     clear c4
     by_cases c5 : 0 ≤ x5_1
     ·rw [if_pos c5] at H
      have c5b0 : decide (0 ≤ x5_1) = true := decide_eq_true c5
      clear c5
      by_cases c6 : x5_1 < (l1.length : Int)
      ·rw [if_pos c6] at H
       have c6b0 : decide (x5_1 < (l1.length : Int)) = true := decide_eq_true c6
       clear c6
       by_cases c7 : (rd l0 x5_1) = (rd l1 x5_1)
       ·rw [if_pos c7] at H
        have c7b0 : ((rd l0 x5_1) == (rd l1 x5_1)) = true := beq_iff_eq.mpr c7
        have c7b1 : ((rd l0 x5_1) != (rd l1 x5_1)) = false := bne_eq_false_iff_eq.mpr c7
        clear c7
        have H' := Aside0.mk H
        clear H
        have p155 : 0 ≤ (x5_1 : Int) := of_decide_eq_true (by first | (with_reducible assumption) | assumption)
        have q155 : x5_1 < (l0.length : Int) := of_decide_eq_true (by first | (with_reducible assumption) | assumption)
        obtain ⟨ad155, e155, hx155_0⟩ := Kd.at_int HR0.out x5_1 p155 q155
        cases e155
        replace p155 := eq_true p155
        replace q155 := eq_true q155
        have p156 : 0 ≤ (x5_1 : Int) := of_decide_eq_true (by first | (with_reducible assumption) | assumption)
        have q156 : x5_1 < (l1.length : Int) := of_decide_eq_true (by first | (with_reducible assumption) | assumption)
        obtain ⟨ad156, e156, hx156_0⟩ := Kd.at_int HR1.out x5_1 p156 q156
        cases e156
        replace p156 := eq_true p156
        replace q156 := eq_true q156
        go_wp2
        repeat (go_quiet (fail); try go_wp2)
        go_roundg k1
        case measure => have := HK1.out; omega
        case rel => exact ⟨(wrap64 (x5_1 + 1)), (by first | rfl | (simp; done) | (simp [*]; done)), H', ⟨by have := HK1.out; omega⟩, by repeat (first | exact Drawn0.refl _ | apply Drawn0.step)⟩
       ·rw [if_neg c7] at H
        have c7b0 : ((rd l0 x5_1) == (rd l1 x5_1)) = false := beq_eq_false_iff_ne.mpr c7
        have c7b1 : ((rd l0 x5_1) != (rd l1 x5_1)) = true := bne_iff_ne.mpr c7
        obtain rfl := Option.some.inj H
        have p155 : 0 ≤ (x5_1 : Int) := of_decide_eq_true (by first | (with_reducible assumption) | assumption)
        have q155 : x5_1 < (l0.length : Int) := of_decide_eq_true (by first | (with_reducible assumption) | assumption)
        obtain ⟨ad155, e155, hx155_0⟩ := Kd.at_int HR0.out x5_1 p155 q155
        cases e155
        replace p155 := eq_true p155
        replace q155 := eq_true q155
        have p156 : 0 ≤ (x5_1 : Int) := of_decide_eq_true (by first | (with_reducible assumption) | assumption)
        have q156 : x5_1 < (l1.length : Int) := of_decide_eq_true (by first | (with_reducible assumption) | assumption)
        obtain ⟨ad156, e156, hx156_0⟩ := Kd.at_int HR1.out x5_1 p156 q156
        cases e156
        replace p156 := eq_true p156
        replace q156 := eq_true q156
        go_wp2
        repeat (go_quiet (fail); try go_wp2)
        go_ret
        exact ⟨by first | rfl | (simp; done) | (simp [*]; done), by repeat (first | exact Drawn0.refl _ | apply Drawn0.step)⟩
      ·rw [if_neg c6] at H
       exact absurd H (by simp)
     ·rw [if_neg c5] at H
      exact absurd H (by simp)
    ·rw [if_neg c4] at H
     have c4b0 : decide (x5_1 < (l0.length : Int)) = false := decide_eq_false c4
     clear c4
     obtain rfl := Option.some.inj H
     go_wp2
     repeat (go_quiet (fail); try go_wp2)
     go_ret
     exact ⟨by first | rfl | (simp; done) | (simp [*]; done), by repeat (first | exact Drawn0.refl _ | apply Drawn0.step)⟩
 ·rw [if_neg c3] at H
  have c3b0 : ((l0.length : Int) == (l1.length : Int)) = false := beq_eq_false_iff_ne.mpr c3
  have c3b1 : ((l0.length : Int) != (l1.length : Int)) = true := bne_iff_ne.mpr c3
  have c3b2 : (l0.length == l1.length) = false := by first | simpa using c3 | (simp at c3 ⊢; omega)
  obtain rfl := Option.some.inj H
  go_enter Try.func35, Try.ntmps35
  go_wp2
  repeat (go_quiet (fail); try go_wp2)
  go_ret
  exact ⟨by first | rfl | (simp; done) | (simp [*]; done), by repeat (first | exact Drawn0.refl _ | apply Drawn0.step)⟩
def trade_between.f (a0 : Int) (a1 : Int) (a2 : Int) : Option (Bool) := if a1 ≤ a0 then (some (decide (a0 ≤ a2))) else (some false)
set_option maxHeartbeats 8000000 in
set_option maxRecDepth 100000 in
theorem trade_between.calls (a0 : Int) (a1 : Int) (a2 : Int) (r : Bool) (w : World) (h : trade_between.f a0 a1 a2 = some r) :
  Calls Try.prog 126 #[.int .i64 a0, .int .i64 a1, .int .i64 a2] w fun e w' => e = .returned (.bool r) ∧ Drawn0 w w' := by
 have H : (if a1 ≤ a0 then (some (decide (a0 ≤ a2))) else (some false)) = some r := h
 clear h
 by_cases c4 : a1 ≤ a0
 ·rw [if_pos c4] at H
  have c4b0 : decide (a1 ≤ a0) = true := decide_eq_true c4
  clear c4
  obtain rfl := Option.some.inj H
  go_enter Try.func126, Try.ntmps126
  go_wp2
  go_ret
  exact ⟨by first | rfl | (simp; done) | (simp [*]; done), by repeat (first | exact Drawn0.refl _ | apply Drawn0.step)⟩
 ·rw [if_neg c4] at H
  have c4b0 : decide (a1 ≤ a0) = false := decide_eq_false c4
  clear c4
  obtain rfl := Option.some.inj H
  go_enter Try.func126, Try.ntmps126
  go_wp2
  go_ret
  exact ⟨by first | rfl | (simp; done) | (simp [*]; done), by repeat (first | exact Drawn0.refl _ | apply Drawn0.step)⟩
def trade_classes_with.f (a0 : Int) (a1 : Int) : Option (Int) := if 0 ≤ a1 then (some (Go.bits .or .u8 a0 (shl .u8 1 a1))) else (none)
set_option maxHeartbeats 8000000 in
set_option maxRecDepth 100000 in
theorem trade_classes_with.calls (a0 : Int) (a1 : Int) (r : Int) (w : World) (h : trade_classes_with.f a0 a1 = some r) :
  Calls Try.prog 137 #[.int .u8 a0, .int .i64 a1] w fun e w' => e = .returned (.int .u8 r) ∧ Drawn0 w w' := by
 have H : (if 0 ≤ a1 then (some (Go.bits .or .u8 a0 (shl .u8 1 a1))) else (none)) = some r := h
 clear h
 by_cases c3 : 0 ≤ a1
 ·rw [if_pos c3] at H
  have c3b0 := eq_true c3
  have c3b1 : decide (0 ≤ a1) = true := decide_eq_true c3
  clear c3
  obtain ⟨ji4, hji4⟩ : ∃ j_ : Int, (shl .u8 1 a1) = j_ := ⟨_, rfl⟩
  replace H : (some (Go.bits .or .u8 a0 (ji4))) = some r := by first | (rw [hji4] at H; exact H) | (simp only [hji4] at H ⊢; exact H)
  have hji4_ : (IntKind.u8.wrap (1 * 2 ^ min a1.toNat 8)) = ji4 := hji4
  have hji4z : a1 ≤ 8 → (IntKind.u8.wrap (1 * 2 ^ a1.toNat)) = ji4 := shl_small hji4
  have hji4u : (IntKind.u8.wrap (2 ^ min a1.toNat 8)) = ji4 := by have h_ := hji4_; rw [Int.one_mul] at h_; exact h_
  have hji4v : a1 ≤ 8 → (IntKind.u8.wrap (2 ^ a1.toNat)) = ji4 := fun hle_ => by have h_ := hji4z hle_; rw [Int.one_mul] at h_; exact h_
  obtain rfl := Option.some.inj H
  go_enter Try.func137, Try.ntmps137
  go_wp2
  go_ret
  exact ⟨by first | rfl | (simp; done) | (simp only [← hji4] <;> (first | rfl | simp)) | (simp [*]; done), by repeat (first | exact Drawn0.refl _ | apply Drawn0.step)⟩
 ·rw [if_neg c3] at H
  exact absurd H (by simp)
def bits_Mul64.f (a0 : Int) (a1 : Int) : Option (Int × Int) := some (IntKind.u64.wrap ((IntKind.u64.wrap ((IntKind.u64.wrap ((a0 / 4294967296) * (a1 / 4294967296))) + ((IntKind.u64.wrap ((IntKind.u64.wrap ((a0 / 4294967296) * (Go.bits .and .u64 a1 4294967295))) + ((IntKind.u64.wrap ((Go.bits .and .u64 a0 4294967295) * (Go.bits .and .u64 a1 4294967295))) / 4294967296))) / 4294967296))) + ((IntKind.u64.wrap ((Go.bits .and .u64 (IntKind.u64.wrap ((IntKind.u64.wrap ((a0 / 4294967296) * (Go.bits .and .u64 a1 4294967295))) + ((IntKind.u64.wrap ((Go.bits .and .u64 a0 4294967295) * (Go.bits .and .u64 a1 4294967295))) / 4294967296))) 4294967295) + (IntKind.u64.wrap ((Go.bits .and .u64 a0 4294967295) * (a1 / 4294967296))))) / 4294967296)), IntKind.u64.wrap (a0 * a1))
set_option maxHeartbeats 8000000 in
set_option maxRecDepth 100000 in
theorem bits_Mul64.calls (a0 : Int) (a1 : Int) (r1 : Int) (r2 : Int) (w : World) (h : bits_Mul64.f a0 a1 = some (r1, r2)) :
  Calls Try.prog 143 #[.int .u64 a0, .int .u64 a1] w fun e w' => e = .returned (.tuple #[.int .u64 r1, .int .u64 r2]) ∧ Drawn0 w w' := by
 have H : (some (IntKind.u64.wrap ((IntKind.u64.wrap ((IntKind.u64.wrap ((a0 / 4294967296) * (a1 / 4294967296))) + ((IntKind.u64.wrap ((IntKind.u64.wrap ((a0 / 4294967296) * (Go.bits .and .u64 a1 4294967295))) + ((IntKind.u64.wrap ((Go.bits .and .u64 a0 4294967295) * (Go.bits .and .u64 a1 4294967295))) / 4294967296))) / 4294967296))) + ((IntKind.u64.wrap ((Go.bits .and .u64 (IntKind.u64.wrap ((IntKind.u64.wrap ((a0 / 4294967296) * (Go.bits .and .u64 a1 4294967295))) + ((IntKind.u64.wrap ((Go.bits .and .u64 a0 4294967295) * (Go.bits .and .u64 a1 4294967295))) / 4294967296))) 4294967295) + (IntKind.u64.wrap ((Go.bits .and .u64 a0 4294967295) * (a1 / 4294967296))))) / 4294967296)), IntKind.u64.wrap (a0 * a1))) = some (r1, r2) := h
 clear h
 simp only [Option.some.injEq, Prod.mk.injEq] at H
 obtain ⟨rfl, rfl⟩ := H
 go_enter Try.func143, Try.ntmps143
 go_wp2
 go_ret2
 exact ⟨by first | rfl | (simp; done) | (simp [*]; done), by repeat (first | exact Drawn0.refl _ | apply Drawn0.step)⟩
def bits_Mul.f (a0 : Int) (a1 : Int) : Option (Int × Int) := (bits_Mul64.f a0 a1).bind fun bt164 => (some (bt164.1, bt164.2))
set_option maxHeartbeats 8000000 in
set_option maxRecDepth 100000 in
theorem bits_Mul.calls (a0 : Int) (a1 : Int) (r1 : Int) (r2 : Int) (w : World) (h : bits_Mul.f a0 a1 = some (r1, r2)) :
  Calls Try.prog 138 #[.int .u64 a0, .int .u64 a1] w fun e w' => e = .returned (.tuple #[.int .u64 r1, .int .u64 r2]) ∧ Drawn0 w w' := by
 have H : ((bits_Mul64.f a0 a1).bind fun bt164 => (some (bt164.1, bt164.2))) = some (r1, r2) := h
 clear h
 replace H := Option.bind_eq_some_iff.mp H
 obtain ⟨⟨jB, jF⟩, A30, H⟩ := H
 replace H : (some (jB, jF)) = some (r1, r2) := H
 have A3 := Aside0.mk A30
 clear A30
 simp only [Option.some.injEq, Prod.mk.injEq] at H
 obtain ⟨rfl, rfl⟩ := H
 go_enter Try.func138, Try.ntmps138
 go_wp2_with (first | ((with_reducible refine gate_callee (f := 143) rfl ?_); refine goesL_ (some 25) rfl rfl Try.func143 (by kernel_rfl) rfl #[.int .u64 a0, .int .u64 a1] rfl (by (try simp only [List.map_toArray, List.map_cons, List.map_nil]); first | done | rfl | (simp only [List.length_drop, List.length_take]; rfl)) ?_; (with_reducible refine (bits_Mul64.calls a0 a1 jB jF _ A3.out).mono ?_); rintro e w' ⟨rfl, ⟨nd, rfl⟩⟩; refine ⟨_, rfl, ?_⟩))
 go_ret2
 exact ⟨by first | rfl | (simp; done) | (simp [*]; done), by repeat (first | exact Drawn0.refl _ | apply Drawn0.step)⟩
end Go.Proofs.Ytfgedbakbljgfaa.PBoldSheets
namespace Go.Ov
section
variable {P : Program} {ops head : Array Oper} {Q : Exit → Act → World → Prop} {md : Region.Mode} {m t : Nat}
structure Cut (md : Region.Mode) (ops head : Array Oper) (m t : Nat) : Prop where
 size : ops.size = m + t
 hsize : head.size = m
 same : ∀ i, i < m → ops[i]? = head[i]?
 on : ∀ (i : Nat) (o : Oper), head[i]? = some o → ∀ e ∈ o.after, e.on < i
 guard : ∀ (i : Nat) (o : Oper), head[i]? = some o → o.guard = none
 waits : ∀ (j : Nat) (o : Oper), m ≤ j → ops[j]? = some o → ∀ i, i < m → ∃ e ∈ o.after, Region.binds md e = true ∧ e.on = i
 chain : ∀ j, j ≤ t → Region.ready md ops (Array.replicate (m + j) true ++ Array.replicate (t - j) false) = if j < t then [m + j] else []
def cutB (md : Region.Mode) (ops head : Array Oper) (m t : Nat) : Bool :=
 ops.size == m + t && head.size == m && ((List.range m).all fun i => match head[i]? with | some o => (o.after.all fun e => decide (e.on < i)) && o.guard.isNone | none => true) &&
  ((List.range t).all fun k => match ops[m + k]? with | some o => (List.range m).all fun i => o.after.any fun e => Region.binds md e && e.on == i | none => true) &&
  (List.range (t + 1)).all fun j => Region.ready md ops (Array.replicate (m + j) true ++ Array.replicate (t - j) false) == if j < t then [m + j] else []
theorem Cut.of (hs : ∀ i, i < m → ops[i]? = head[i]?) (h : cutB md ops head m t = true) : Cut md ops head m t := by
 unfold cutB at h
 simp only [Bool.and_eq_true, beq_iff_eq, List.all_eq_true, List.mem_range] at h
 obtain ⟨⟨⟨⟨h1, h2⟩, h3⟩, h4⟩, h5⟩ := h
 refine ⟨h1, h2, hs, fun i o ho e he => ?_, fun i o ho => ?_, fun j o hj ho i hi => ?_, fun j hj => h5 j (by omega)⟩
 ·have hi : i < m := by have := (Array.getElem?_eq_some_iff.1 ho).1; omega
  have := h3 i hi
  rw [ho] at this
  simp only [Bool.and_eq_true, Array.all_eq_true_iff_forall_mem, decide_eq_true_eq] at this
  exact this.1 e he
 ·have hi : i < m := by have := (Array.getElem?_eq_some_iff.1 ho).1; omega
  have := h3 i hi
  rw [ho] at this
  simp only [Bool.and_eq_true] at this
  simpa using this.2
 ·have hlt := (Array.getElem?_eq_some_iff.1 ho).1
  obtain ⟨k, rfl⟩ : ∃ k, j = m + k := ⟨j - m, by omega⟩
  have := h4 k (by omega)
  rw [ho] at this
  simp only [List.all_eq_true, List.mem_range, Array.any_eq_true'] at this
  obtain ⟨e, he, hb⟩ := this i hi
  simp only [Bool.and_eq_true, beq_iff_eq] at hb
  exact ⟨e, he, hb.1, hb.2⟩
theorem all_listed (hc : Cut md ops head m t) {lh : Array Bool} (hl : lh.size = m) (h : Region.ready md head lh = []) : lh = Array.replicate m true := by
 apply Array.ext
 ·simp [hl]
 intro i h1 h2
 simp only [Array.getElem_replicate]
 induction i using Nat.strongRecOn with
 | _ i ih =>
  cases hx : lh[i] with
  | true => rfl
  | false =>
   exfalso
   have hi : i < head.size := by rw [hc.hsize]; omega
   have : i ∈ Region.ready md head lh := mem_ready.2 ⟨by simp [h1, hx], head[i], Array.getElem?_eq_getElem hi, fun e he hb => by
    have := hc.on i _ (Array.getElem?_eq_getElem hi) e he
    have h3 : e.on < lh.size := by omega
    simp [h3]
    exact ih e.on this h3 (by simp; omega)⟩
   rw [h] at this
   cases this
theorem ready_head (hc : Cut md ops head m t) {lh : Array Bool} (hl : lh.size = m) {i0 : Nat} (h0 : lh[i0]? = some false) : Region.ready md ops (lh ++ Array.replicate t false) = Region.ready md head lh := by
 have hi0 : i0 < m := by have := (Array.getElem?_eq_some_iff.1 h0).1; omega
 have hget : ∀ i d, i < m → (lh ++ Array.replicate t false).getD i d = lh.getD i d := fun i d hi => by
  simp only [Array.getD_eq_getD_getElem?]
  rw [Array.getElem?_append_left (by omega)]
 unfold Region.ready
 rw [hc.size, hc.hsize, List.range_add, List.filter_append]
 have e2 : ((List.range t).map (m + ·)).filter (fun i => !(lh ++ Array.replicate t false).getD i true && ((ops[i]?).map (·.after.all fun e => !Region.binds md e || (lh ++ Array.replicate t false).getD e.on false)).getD false) = [] := by
  rw [List.filter_eq_nil_iff]
  intro j hj
  obtain ⟨k, hk, rfl⟩ := List.mem_map.1 hj
  have hk' : k < t := List.mem_range.1 hk
  have hlt : m + k < ops.size := by rw [hc.size]; omega
  obtain ⟨e, he, hb, hon⟩ := hc.waits (m + k) _ (Nat.le_add_right _ _) (Array.getElem?_eq_getElem hlt) i0 hi0
  simp only [Array.getElem?_eq_getElem hlt, Option.map_some, Option.getD_some, Bool.and_eq_true, not_and]
  intro _ hall
  rw [Array.all_eq_true_iff_forall_mem] at hall
  have := hall e he
  rw [hb, hon, hget i0 false hi0] at this
  simp [h0] at this
 rw [e2, List.append_nil]
 apply List.filter_congr
 intro i hi
 have hi' : i < m := List.mem_range.1 hi
 rw [hget i true hi', hc.same i hi']
 cases ho : head[i]? with
 | none => rfl
 | some o =>
  simp only [Option.map_some, Option.getD_some]
  congr 1
  rw [Bool.eq_iff_iff, Array.all_eq_true_iff_forall_mem, Array.all_eq_true_iff_forall_mem]
  refine forall_congr' fun e => forall_congr' fun he => ?_
  rw [hget e.on false (by have := hc.on i o ho e he; omega)]
theorem chain_any (hc : Cut md ops head m t) : ∀ (r j : Nat), j + r = t → ∀ (f : Nat) (a : Act) (w : World), wpOps P ops Q (List.range' (m + j) r) a w → wpAny P md ops Q (r + f) (Array.replicate (m + j) true ++ Array.replicate (t - j) false) a w
 | 0, j, hj, f, a, w, h => by
  have hr := hc.chain j (by omega)
  rw [if_neg (by omega)] at hr
  have hq : Q .normal a w := by simpa [wpOps] using h
  cases f with
  | zero => exact ⟨hr, hq⟩
  | succ f => exact ⟨fun _ => hq, by rw [hr]; simp⟩
 | r + 1, j, hj, f, a, w, h => by
  have hr := hc.chain j (by omega)
  rw [if_pos (by omega)] at hr
  rw [List.range'_succ, wpOps_cons] at h
  rw [show r + 1 + f = (r + f) + 1 by omega]
  refine ⟨fun h0 => absurd (hr.symm.trans h0) (by simp), fun i hi => ?_⟩
  rw [hr, List.mem_singleton] at hi
  subst hi
  refine wpOp_mono (fun a' w' h' => ?_) h
  have e : (Array.replicate (m + j) true ++ Array.replicate (t - j) false).setIfInBounds (m + j) true = Array.replicate (m + (j + 1)) true ++ Array.replicate (t - (j + 1)) false := by
   apply Array.ext_getElem?
   intro i
   rw [Array.getElem?_setIfInBounds]
   simp only [Array.getElem?_append, Array.size_append, Array.size_replicate, Array.getElem?_replicate]
   repeat' split
   all_goals first | rfl | omega | (exfalso; omega) | simp_all
  rw [e]
  exact chain_any hc r (j + 1) (by omega) f a' w' h'
theorem any_of_head (hc : Cut md ops head m t) (hQ : ∀ c a w, Q (.panic c) a w → Q (.panic c) a w) : ∀ (fuel : Nat) (lh : Array Bool) (a : Act) (w : World), lh.size = m →
  wpAny P md head (fun e a w => match e with | .normal => wpOps P ops Q (List.range' m t) a w | e => Q e a w) fuel lh a w → wpAny P md ops Q (t + fuel) (lh ++ Array.replicate t false) a w := by
 have fin : ∀ (fuel : Nat) (lh : Array Bool) (a : Act) (w : World), lh.size = m → Region.ready md head lh = [] → wpOps P ops Q (List.range' m t) a w → wpAny P md ops Q (t + fuel) (lh ++ Array.replicate t false) a w := fun fuel lh a w hl hr hq => by
  rw [all_listed hc hl hr]
  have := chain_any (P := P) (Q := Q) hc t 0 (by omega) fuel a w (by simpa using hq)
  simpa using this
 have up : ∀ {i : Nat} {K : Act → World → Prop} {a : Act} {w : World}, i < m → wpOp P head (fun e a w => match e with | .normal => wpOps P ops Q (List.range' m t) a w | e => Q e a w) i K a w → wpOp P ops Q i K a w := by
  intro i K a w hi h
  unfold wpOp at h ⊢
  rw [hc.same i hi]
  cases ho : head[i]? with
  | none => rw [ho] at h; exact h
  | some o =>
   rw [ho] at h
   have hg := hc.guard i o ho
   have hw : ∀ y, Region.wanted o y = true := fun y => by simp [Region.wanted, hg]
   simp only [hw, if_true] at h ⊢
   refine h.imp (fun h => ?_) id
   unfold Oper.wp at h ⊢
   generalize (execOp a.eval o).run P w = r at h
   cases r with
   | ok n w' => cases n <;> exact h
   | halt x w' => cases x <;> exact h
 intro fuel
 induction fuel with
 | zero =>
  intro lh a w hl h
  exact fin 0 lh a w hl h.1 h.2
 | succ fuel ih =>
  intro lh a w hl h
  by_cases hr : Region.ready md head lh = []
  ·exact fin _ lh a w hl hr (h.1 hr)
  ·obtain ⟨i, hi⟩ := List.exists_mem_of_ne_nil _ hr
   have hi' := mem_ready.1 hi
   have h0 : lh[i]? = some false := by
    obtain ⟨h1, o, ho, _⟩ := hi'
    have hlt : i < lh.size := by have := (Array.getElem?_eq_some_iff.1 ho).1; rw [hc.hsize] at this; omega
    simp [hlt] at h1
    rw [Array.getElem?_eq_getElem hlt, h1]
   have hrd := ready_head hc hl h0
   rw [show t + (fuel + 1) = (t + fuel) + 1 by omega]
   refine ⟨fun hn => absurd (hrd.symm.trans hn) hr, fun k hk => ?_⟩
   rw [hrd] at hk
   have hkm : k < m := by
    obtain ⟨_, o, ho, _⟩ := mem_ready.1 hk
    have := (Array.getElem?_eq_some_iff.1 ho).1
    rw [hc.hsize] at this
    exact this
   refine up hkm (wpOp_mono (fun a' w' h' => ?_) (h.2 k hk))
   have := ih (lh.setIfInBounds k true) a' w' (by simp [hl]) h'
   rw [show (lh ++ Array.replicate t false).setIfInBounds k true = lh.setIfInBounds k true ++ Array.replicate t false by
    rw [Array.setIfInBounds_append_left (by omega)]]
   exact this
theorem wp_region_cut {id : Nat} {a : Act} {w : World} (hm : P.follows .mixedOrders = true) (hc : Cut .any ops head m t)
  (h : wpAny P .any head (fun e a w => match e with | .normal => wpOps P ops Q (List.range' m t) a w | e => Q e a w) m (Array.replicate m false) a { w with drawn := w.drawn + 1 }) : (Code.region id ops true).wp P Q a w := by
 refine wp_region_any hm ?_
 have := any_of_head hc (fun _ _ _ h => h) m (Array.replicate m false) a _ (by simp) h
 rw [hc.size, show m + t = t + m by omega]
 have e : Array.replicate (t + m) false = Array.replicate m false ++ Array.replicate t false := by
  rw [Array.replicate_append_replicate, Nat.add_comm]
 rw [e]
 exact this
theorem wpOps_step {i : Nat} {rest : List Nat} {o : Oper} {a : Act} {w : World} (ho : ops[i]? = some o) (hg : o.guard = none) (h : ∀ K : Act → World → Prop, (∀ a w, wpOps P ops Q rest a w → K a w) → o.wp P a w K Q) : wpOps P ops Q (i :: rest) a w := by
 rw [wpOps_cons]
 unfold wpOp
 rw [ho]
 have hw : ∀ y, Region.wanted o y = true := fun y => by simp [Region.wanted, hg]
 simp only [hw, if_true]
 exact .inl (h _ fun _ _ h => h)
end
section
variable {P : Program} {ops : Array Oper} {Q : Exit → Act → World → Prop} {md : Region.Mode} {S : World → Prop}
theorem tk (i : Nat) (oi : Oper) (v : Value) {fuel : Nat} {listed : Array Bool} {a : Act} {w : World} (hy : YieldsIf P ops S oi v a) (hS : S w) (h : wpAnyH P md ops Q S fuel (listed.setIfInBounds i true) (a.put oi.dst v) w) (hi : ops[i]? = some oi := by rfl) (hs : Region.noSelect ops = true := by kernel_rfl)
  (hf : Region.free md ops listed i = true := by kernel_rfl) (hr : (Region.ready md ops listed).contains i = true := by kernel_rfl) (hQ : ∀ c a w, Q (.panic c) (a.put oi.dst v) w → Q (.panic c) a w := by exact fun _ _ _ h => h) : wpAnyH P md ops Q S (fuel + 1) listed a w := wpAnyH_take hi hs hf hr hQ hy hS h
theorem pt : (∀ (a : Act) (d : Nat) (v : Value), a.put (some d) v = { a with tmps := a.tmps.setIfInBounds d v }) ∧ (∀ (a : Act) (v : Value), a.put none v = a) ∧ (∀ (l : List Value) (i : Nat) (v : Value), l.toArray.setIfInBounds i v = (l.set i v).toArray) ∧
  (∀ (x v : Value) (l : List Value) (i : Nat), (x :: l).set (i + 1) v = x :: l.set i v) ∧ (∀ (x v : Value) (l : List Value), (x :: l).set 0 v = v :: l) :=
 ⟨fun _ _ _ => rfl, fun _ _ => rfl, fun _ _ _ => by simp, fun _ _ _ _ => rfl, fun _ _ _ => rfl⟩
end
end Go.Ov
namespace Go.Ov
open Go.Conc Go.Proofs Go.RowKit Go.Maps Go.Proofs.YtfgedbakbljgfaaW.PrintWords Go.Proofs.YtfgedbakbljgfaaW.PrintLast Go.Proofs.YtfgedbakbljgfaaW.PrintMore Go.Proofs.Ytfgedbakbljgfaa.PBoldSheets
noncomputable def c117_0 : Array Oper := (fun {c} (_ : rg Try.f117 0 = some c) => c) rfl
noncomputable def c117_1 : Array Oper := (fun {c} (_ : rg Try.f117 1 = some c) => c) rfl
noncomputable def c117_2 : Array Oper := (fun {c} (_ : rg Try.f117 2 = some c) => c) rfl
noncomputable def c117_3 : Array Oper := (fun {c} (_ : rg Try.f117 3 = some c) => c) rfl
noncomputable def c117_4 : Array Oper := (fun {c} (_ : rg Try.f117 4 = some c) => c) rfl
noncomputable def c117_5 : Array Oper := (fun {c} (_ : rg Try.f117 5 = some c) => c) rfl
noncomputable def c117_6 : Array Oper := (fun {c} (_ : rg Try.f117 6 = some c) => c) rfl
noncomputable def c117_7 : Array Oper := (fun {c} (_ : rg Try.f117 7 = some c) => c) rfl
noncomputable def c117_8 : Array Oper := (fun {c} (_ : rg Try.f117 8 = some c) => c) rfl
noncomputable def c117_9 : Array Oper := (fun {c} (_ : rg Try.f117 9 = some c) => c) rfl
noncomputable def l117_0 : Code := (.seq (.region 4 c117_4 false) (.seq (.cond (Operand.tmp 20) Code.skip (Code.exit 0)) (.seq (.block 1 (.seq (.region 5 c117_5 false) (.seq (.region 6 c117_6 false) (.seq (.region 7 c117_7 false) (.cond (Operand.tmp 30) (.region 8 c117_8 false) Code.skip))))) (.region 9 c117_9 false))))
noncomputable def c117_10 : Array Oper := (fun {c} (_ : rg Try.f117 10 = some c) => c) rfl
noncomputable def c117_11 : Array Oper := (fun {c} (_ : rg Try.f117 11 = some c) => c) rfl
noncomputable def c117_12 : Array Oper := (fun {c} (_ : rg Try.f117 12 = some c) => c) rfl
noncomputable def c117_13 : Array Oper := (fun {c} (_ : rg Try.f117 13 = some c) => c) rfl
noncomputable def c117_14 : Array Oper := (fun {c} (_ : rg Try.f117 14 = some c) => c) rfl
noncomputable def c117_15 : Array Oper := (fun {c} (_ : rg Try.f117 15 = some c) => c) rfl
noncomputable def l117_1 : Code := (.seq (.region 12 c117_12 false) (.seq (.cond (Operand.tmp 44) Code.skip (Code.exit 2)) (.seq (.block 3 (.seq (.region 13 c117_13 false) (.region 14 c117_14 true))) (.region 15 c117_15 false))))
noncomputable def c117_16 : Array Oper := (fun {c} (_ : rg Try.f117 16 = some c) => c) rfl
noncomputable def b117 : Code := (.seq (.region 0 c117_0 false) (.seq (.region 1 c117_1 false) (.seq (.region 2 c117_2 false) (.seq (.seq (.region 3 c117_3 false) (.block 0 (.loop l117_0))) (.seq (.region 10 c117_10 false) (.seq (.seq (.region 11 c117_11 false) (.block 2 (.loop l117_1))) (.seq (.region 16 c117_16 false) Code.ret)))))))
theorem body117 : Try.f117.body = some b117 := by kernel_rfl
theorem i64w (n : Int) : IntKind.i64.wrap n = wrap64 n := by unfold wrap64; exact IntKind.wrap_i64 n
noncomputable def h117 : Array Oper := c117_14.extract 0 11
theorem cut117 : Cut .any c117_14 h117 11 3 := by
 refine Cut.of (fun i hi => ?_) (by kernel_rfl)
 have : i = 0 ∨ i = 1 ∨ i = 2 ∨ i = 3 ∨ i = 4 ∨ i = 5 ∨ i = 6 ∨ i = 7 ∨ i = 8 ∨ i = 9 ∨ i = 10 := by omega
 rcases this with rfl | rfl | rfl | rfl | rfl | rfl | rfl | rfl | rfl | rfl | rfl <;> rfl
section
variable {cs : List Frame} {X : Frame → World → Prop} {K : List Item} {p b l c off grp : Int}
abbrev Reg (bx gA gT : Nat) (p b l c : Int) (cu kd ln s : Int) (w : World) : Prop :=
 w.cell? ⟨bx, 0, none⟩ = some (.int .i64 cu) ∧ w.cell? ⟨bx, 1, none⟩ = some (.int .i64 kd) ∧ w.cell? ⟨bx, 2, none⟩ = some (.int .i64 ln) ∧ w.cell? ⟨gA, cu.toNat * 2, none⟩ = some (.int .i64 s) ∧ w.frozen? ⟨gA, cu.toNat * 2, none⟩ = false ∧ w.heap[gT]? = some (.cells #[.int .i64 p, .int .i64 b, .int .i64 l, .int .i64 c] 158 (0, 0))
theorem Reg.below {bx gA gT : Nat} {p b l c cu kd ln s : Int} {w w' : World} (h : Reg bx gA gT p b l c cu kd ln s w) (hb : Below w.heap.size w w') : Reg bx gA gT p b l c cu kd ln s w' := by
 obtain ⟨h0, h1, h2, h3, h4, h5⟩ := h
 exact ⟨pw_cell_below hb h0, pw_cell_below hb h1, pw_cell_below hb h2, pw_cell_below hb h3, (hb.frozen (World.block_lt_of_cell? w _ h3)).trans h4, (hb.block _ (lt_of_some h5)).trans h5⟩
set_option maxHeartbeats 4000000 in
theorem reg117_1 (bx gA gT n : Nat) (cu ln s : Int) (hx0 : 0 ≤ cu) (hx1 : cu < (n : Int))  t0 t1 t2 t4 t5 t6 t8 qY jA qN jS qC qL qW jT qA qK jQ qF qZ qH qB qI qU jR jW qQ qX qJ qR jU qD jX qM qS qE jY qV qP qO qG jZ jO jV jC jH jF jI jM jJ jN jG jL jB jD jK jE qT jP (W : World) (hR : Reg bx gA gT p b l c cu 1 ln s W)
  (h : ∀ jC jH jF jI jM jJ jN jG jL jB jD jK jE W', Below W.heap.size W W' → To Try.prog cs X ((baseN 117).at ({ tmps := #[t0, t1, t2, .slice (some ⟨gA, 0, none⟩) n n, t4, t5, t6, ptr gT, t8, ptr bx, qY, jA, qN, jS, qC, qL, qW, jT, qA, qK, jQ, qF, qZ, qH, qB, qI, qU, jR, jW, qQ, qX, qJ, qR, jU, qD, jX, qM, qS, qE, jY, qV, qP, qO, qG, jZ, jO, jV, jC, jH, jF, jI, jM, jJ, jN, jG, jL, jB, jD, jK, jE, qT, jP], defers := [] } : Act) K) (W'.setCell ⟨gA, cu.toNat * 2, none⟩ (.int .i64 (wrap64 (s + p))))) :
  To Try.prog cs X ((baseN 117).at ({ tmps := #[t0, t1, t2, .slice (some ⟨gA, 0, none⟩) n n, t4, t5, t6, ptr gT, t8, ptr bx, qY, jA, qN, jS, qC, qL, qW, jT, qA, qK, jQ, qF, qZ, qH, qB, qI, qU, jR, jW, qQ, qX, qJ, qR, jU, qD, jX, qM, qS, qE, jY, qV, qP, qO, qG, jZ, jO, jV, jC, jH, jF, jI, jM, jJ, jN, jG, jL, jB, jD, jK, jE, qT, jP], defers := [] } : Act) (.code (.region 14 c117_14 true) :: K)) W := by
 refine To.code fun K hK => ?_
 dsimp only at h
 have hg8 : Hid _ := h
 clear h
 have c105 : Hid (∀ w : World, Calls Try.prog 105 #[.pointer (some ⟨gT, 0, none⟩), .agg #[.int .i64 cu, .int .i64 1, .int .i64 ln]] w fun e w' => e = .returned (.iface 160 (.agg #[.pointer (some ⟨gT, 0, none⟩)])) ∧ Below w.heap.size w w') := fun w => (calls105 gT ⟨cu, 1, ln⟩).mono fun e w' ⟨v, h1, h2, h3⟩ => ⟨by rw [h1, h2]; simp [advV], h3⟩
 have cpr : Hid (∀ w : World, w.heap[gT]? = some (.cells #[.int .i64 p, .int .i64 b, .int .i64 l, .int .i64 c] 158 (0, 0)) → Calls Try.prog 161 #[.agg #[.pointer (some ⟨gT, 0, none⟩)]] w fun e w' => e = .returned (.int .i64 p) ∧ Below w.heap.size w w') := fun w hg => (calls161 hg).mono fun e w' ⟨v, h1, h2, h3⟩ => ⟨by rw [h1, h2], h3⟩
 have hm : ∀ W : World, (method 316 160 (.agg #[.pointer (some ⟨gT, 0, none⟩)]) "wayzgoose/bold.price").run Try.prog W = .ok (161, .agg #[.pointer (some ⟨gT, 0, none⟩)]) W := fun W => by kernel_rfl
 refine wp_region_cut (by kernel_rfl) cut117 (wpAny_of_held (S := Reg bx gA gT p b l c cu 1 ln s) _ _ _ _ ?_)
 have hHeld : Reg bx gA gT p b l c cu 1 ln s { W with drawn := W.drawn + 1 } := hR
 have hB0 : Below W.heap.size W { W with drawn := W.drawn + 1 } := Below.drew (Below.refl _ _)
 clear hR
 generalize ({ W with drawn := W.drawn + 1 } : World) = w0 at hHeld hB0 ⊢
 unfold h117
 refine tk 0 ⟨some 47, .move (.tmp 3), 153, "bold.go:161", #[], none⟩ (.slice (some ⟨gA, 0, none⟩) n n) (.inl ⟨by rfl, ?_⟩) hHeld ?_
 ·intro w ⟨h0, h1, h2, h3, h4, h5⟩
  go_simp
 try simp only [pt]
 refine tk 1 ⟨some 48, .fieldAddr 39 (.tmp 9) 0, 0, "bold.go:161", #[], none⟩ (.pointer (some ⟨bx, 0, none⟩)) (.inl ⟨by rfl, ?_⟩) hHeld ?_
 ·intro w ⟨h0, h1, h2, h3, h4, h5⟩
  go_simp
 try simp only [pt]
 refine tk 2 ⟨some 49, .load 3 (.tmp 48), 3, "bold.go:161", #[⟨1, .data⟩], none⟩ (.int .i64 cu) (.inl ⟨by rfl, ?_⟩) hHeld ?_
 ·intro w ⟨h0, h1, h2, h3, h4, h5⟩
  go_simp
 try simp only [pt]
 refine tk 3 ⟨some 50, .indexAddr 153 (.tmp 47) (.tmp 49), 0, "bold.go:161", #[⟨0, .data⟩, ⟨2, .data⟩], none⟩ (.pointer (some ⟨gA, cu.toNat * 2, none⟩)) (.inl ⟨by rfl, ?_⟩) hHeld ?_
 ·intro w ⟨h0, h1, h2, h3, h4, h5⟩
  go_simp
 try simp only [pt]
 refine tk 4 ⟨some 51, .fieldAddr 135 (.tmp 50) 0, 0, "bold.go:161", #[⟨3, .data⟩], none⟩ (.pointer (some ⟨gA, cu.toNat * 2, none⟩)) (.inl ⟨by rfl, ?_⟩) hHeld ?_
 ·intro w ⟨h0, h1, h2, h3, h4, h5⟩
  go_simp
 try simp only [pt]
 refine tk 5 ⟨some 52, .load 3 (.tmp 51), 3, "bold.go:161", #[⟨4, .data⟩], none⟩ (.int .i64 s) (.inl ⟨by rfl, ?_⟩) hHeld ?_
 ·intro w ⟨h0, h1, h2, h3, h4, h5⟩
  go_simp
 try simp only [pt]
 refine tk 6 ⟨some 53, .move (.tmp 7), 140, "bold.go:161", #[], none⟩ (.pointer (some ⟨gT, 0, none⟩)) (.inl ⟨by rfl, ?_⟩) hHeld ?_
 ·intro w ⟨h0, h1, h2, h3, h4, h5⟩
  go_simp
 try simp only [pt]
 refine tk 7 ⟨some 54, .load 39 (.tmp 9), 39, "bold.go:161", #[], none⟩ (.agg #[.int .i64 cu, .int .i64 1, .int .i64 ln]) (.inl ⟨by rfl, ?_⟩) hHeld ?_
 ·intro w ⟨h0, h1, h2, h3, h4, h5⟩
  go_simp
 try simp only [pt]
 refine wpAnyH_ready (rs := [8]) (by kernel_rfl) (by simp) ?_
 refine AllReadyH.cons (o := ⟨some 55, .call ⟨.value (.func 105), #[.tmp 53, .tmp 54], #[140, 39]⟩, 139, "bold.go:161", #[⟨6, .data⟩, ⟨7, .data⟩], none⟩) rfl (fun K' hK' => ?_) AllReadyH.nil
 go_simp
 go_at_call 105
 refine Calls.mono (c105.out _) ?_
 rintro e w' ⟨rfl, hb⟩
 dsimp only
 refine hK'.out _ _ (Reg.below hHeld hb) (fun hHeld' => ?_)
 replace hB0 := below_then hB0 hB0.size hb
 clear hK' K' hHeld hb c105
 clear w0
 try simp only [pt]
 refine wpAnyH_ready (rs := [9]) (by kernel_rfl) (by simp) ?_
 refine AllReadyH.cons (o := ⟨some 56, .call ⟨.invoke (.tmp 55) "wayzgoose/bold.price", #[], #[]⟩, 3, "bold.go:161", #[⟨8, .data⟩, ⟨8, .chain⟩], none⟩) rfl (fun K' hK' => ?_) AllReadyH.nil
 go_simp
 go_at_call 161
 refine Calls.mono (cpr.out _ hHeld'.2.2.2.2.2) ?_
 rintro e w0 ⟨rfl, hb⟩
 dsimp only
 refine hK'.out _ _ (Reg.below hHeld' hb) (fun hHeld => ?_)
 replace hB0 := below_then hB0 hB0.size hb
 clear hK' K' hHeld' hb cpr
 clear w'
 try simp only [pt]
 refine wpAnyH_ready (rs := [10]) (by kernel_rfl) (by simp) ?_
 refine AllReadyH.cons (o := ⟨some 57, .binOp .add 3 (.tmp 52) (.tmp 56) 3, 3, "bold.go:161", #[⟨5, .data⟩, ⟨9, .data⟩], none⟩) rfl (fun K' hK' => ?_) AllReadyH.nil
 go_simp
 refine hK'.out _ _ hHeld (fun _ => ?_)
 clear hK' K'
 try simp only [pt]
 refine wpAnyH_done (by kernel_rfl) ?_ _
 show wpOps Try.prog c117_14 _ [11, 12, 13] _ _
 obtain ⟨h0, h1, h2, h3, h4, h5⟩ := hHeld
 refine wpOps_step (o := ⟨some 58, .indexAddr 153 (.tmp 47) (.tmp 49), 0, "bold.go:161", #[⟨0, .data⟩, ⟨2, .data⟩, ⟨0, .phase⟩, ⟨1, .phase⟩, ⟨2, .phase⟩, ⟨3, .phase⟩, ⟨4, .phase⟩, ⟨5, .phase⟩, ⟨6, .phase⟩, ⟨7, .phase⟩, ⟨8, .phase⟩, ⟨9, .phase⟩, ⟨10, .phase⟩], none⟩) rfl rfl fun K' hK' => ?_
 go_simp
 refine hK' _ _ ?_
 clear hK' K'
 try simp only [pt]
 refine wpOps_step (o := ⟨some 59, .fieldAddr 135 (.tmp 58) 0, 0, "bold.go:161", #[⟨11, .data⟩, ⟨0, .phase⟩, ⟨1, .phase⟩, ⟨2, .phase⟩, ⟨3, .phase⟩, ⟨4, .phase⟩, ⟨5, .phase⟩, ⟨6, .phase⟩, ⟨7, .phase⟩, ⟨8, .phase⟩, ⟨9, .phase⟩, ⟨10, .phase⟩], none⟩) rfl rfl fun K' hK' => ?_
 go_simp
 refine hK' _ _ ?_
 clear hK' K'
 try simp only [pt]
 refine wpOps_step (o := ⟨none, .store 3 (.tmp 59) (.tmp 57), 0, "bold.go:161", #[⟨12, .data⟩, ⟨10, .data⟩, ⟨9, .chain⟩, ⟨0, .phase⟩, ⟨1, .phase⟩, ⟨2, .phase⟩, ⟨3, .phase⟩, ⟨4, .phase⟩, ⟨5, .phase⟩, ⟨6, .phase⟩, ⟨7, .phase⟩, ⟨8, .phase⟩, ⟨9, .phase⟩, ⟨10, .phase⟩], none⟩) rfl rfl fun K' hK' => ?_
 go_simp
 refine hK' _ _ ?_
 clear hK' K'
 show K _ _
 rw [i64w (s + _)]
 exact hK _ _ (hg8.out _ _ _ _ _ _ _ _ _ _ _ _ _ w0 hB0)
set_option maxHeartbeats 4000000 in
theorem reg117_2 (bx gA gT n : Nat) (cu ln s : Int) (hx0 : 0 ≤ cu) (hx1 : cu < (n : Int))  t0 t1 t2 t4 t5 t6 t8 qY jA qN jS qC qL qW jT qA qK jQ qF qZ qH qB qI qU jR jW qQ qX qJ qR jU qD jX qM qS qE jY qV qP qO qG jZ jO jV jC jH jF jI jM jJ jN jG jL jB jD jK jE qT jP (W : World) (hR : Reg bx gA gT p b l c cu 2 ln s W)
  (h : ∀ jC jH jF jI jM jJ jN jG jL jB jD jK jE W', Below W.heap.size W W' → To Try.prog cs X ((baseN 117).at ({ tmps := #[t0, t1, t2, .slice (some ⟨gA, 0, none⟩) n n, t4, t5, t6, ptr gT, t8, ptr bx, qY, jA, qN, jS, qC, qL, qW, jT, qA, qK, jQ, qF, qZ, qH, qB, qI, qU, jR, jW, qQ, qX, qJ, qR, jU, qD, jX, qM, qS, qE, jY, qV, qP, qO, qG, jZ, jO, jV, jC, jH, jF, jI, jM, jJ, jN, jG, jL, jB, jD, jK, jE, qT, jP], defers := [] } : Act) K) (W'.setCell ⟨gA, cu.toNat * 2, none⟩ (.int .i64 (wrap64 (s + (wrap64 (b + wrap64 (wrap64 (ln - 1) * l)))))))) :
  To Try.prog cs X ((baseN 117).at ({ tmps := #[t0, t1, t2, .slice (some ⟨gA, 0, none⟩) n n, t4, t5, t6, ptr gT, t8, ptr bx, qY, jA, qN, jS, qC, qL, qW, jT, qA, qK, jQ, qF, qZ, qH, qB, qI, qU, jR, jW, qQ, qX, qJ, qR, jU, qD, jX, qM, qS, qE, jY, qV, qP, qO, qG, jZ, jO, jV, jC, jH, jF, jI, jM, jJ, jN, jG, jL, jB, jD, jK, jE, qT, jP], defers := [] } : Act) (.code (.region 14 c117_14 true) :: K)) W := by
 refine To.code fun K hK => ?_
 dsimp only at h
 have hg8 : Hid _ := h
 clear h
 have c105 : Hid (∀ w : World, Calls Try.prog 105 #[.pointer (some ⟨gT, 0, none⟩), .agg #[.int .i64 cu, .int .i64 2, .int .i64 ln]] w fun e w' => e = .returned (.iface 162 (.agg #[.pointer (some ⟨gT, 0, none⟩), .int .i64 ln])) ∧ Below w.heap.size w w') := fun w => (calls105 gT ⟨cu, 2, ln⟩).mono fun e w' ⟨v, h1, h2, h3⟩ => ⟨by rw [h1, h2]; simp [advV], h3⟩
 have cpr : Hid (∀ w : World, w.heap[gT]? = some (.cells #[.int .i64 p, .int .i64 b, .int .i64 l, .int .i64 c] 158 (0, 0)) → Calls Try.prog 162 #[.agg #[.pointer (some ⟨gT, 0, none⟩), .int .i64 ln]] w fun e w' => e = .returned (.int .i64 (wrap64 (b + wrap64 (wrap64 (ln - 1) * l)))) ∧ Below w.heap.size w w') := fun w hg => (calls162 hg).mono fun e w' ⟨v, h1, h2, h3⟩ => ⟨by rw [h1, h2], h3⟩
 have hm : ∀ W : World, (method 316 162 (.agg #[.pointer (some ⟨gT, 0, none⟩), .int .i64 ln]) "wayzgoose/bold.price").run Try.prog W = .ok (162, .agg #[.pointer (some ⟨gT, 0, none⟩), .int .i64 ln]) W := fun W => by kernel_rfl
 refine wp_region_cut (by kernel_rfl) cut117 (wpAny_of_held (S := Reg bx gA gT p b l c cu 2 ln s) _ _ _ _ ?_)
 have hHeld : Reg bx gA gT p b l c cu 2 ln s { W with drawn := W.drawn + 1 } := hR
 have hB0 : Below W.heap.size W { W with drawn := W.drawn + 1 } := Below.drew (Below.refl _ _)
 clear hR
 generalize ({ W with drawn := W.drawn + 1 } : World) = w0 at hHeld hB0 ⊢
 unfold h117
 refine tk 0 ⟨some 47, .move (.tmp 3), 153, "bold.go:161", #[], none⟩ (.slice (some ⟨gA, 0, none⟩) n n) (.inl ⟨by rfl, ?_⟩) hHeld ?_
 ·intro w ⟨h0, h1, h2, h3, h4, h5⟩
  go_simp
 try simp only [pt]
 refine tk 1 ⟨some 48, .fieldAddr 39 (.tmp 9) 0, 0, "bold.go:161", #[], none⟩ (.pointer (some ⟨bx, 0, none⟩)) (.inl ⟨by rfl, ?_⟩) hHeld ?_
 ·intro w ⟨h0, h1, h2, h3, h4, h5⟩
  go_simp
 try simp only [pt]
 refine tk 2 ⟨some 49, .load 3 (.tmp 48), 3, "bold.go:161", #[⟨1, .data⟩], none⟩ (.int .i64 cu) (.inl ⟨by rfl, ?_⟩) hHeld ?_
 ·intro w ⟨h0, h1, h2, h3, h4, h5⟩
  go_simp
 try simp only [pt]
 refine tk 3 ⟨some 50, .indexAddr 153 (.tmp 47) (.tmp 49), 0, "bold.go:161", #[⟨0, .data⟩, ⟨2, .data⟩], none⟩ (.pointer (some ⟨gA, cu.toNat * 2, none⟩)) (.inl ⟨by rfl, ?_⟩) hHeld ?_
 ·intro w ⟨h0, h1, h2, h3, h4, h5⟩
  go_simp
 try simp only [pt]
 refine tk 4 ⟨some 51, .fieldAddr 135 (.tmp 50) 0, 0, "bold.go:161", #[⟨3, .data⟩], none⟩ (.pointer (some ⟨gA, cu.toNat * 2, none⟩)) (.inl ⟨by rfl, ?_⟩) hHeld ?_
 ·intro w ⟨h0, h1, h2, h3, h4, h5⟩
  go_simp
 try simp only [pt]
 refine tk 5 ⟨some 52, .load 3 (.tmp 51), 3, "bold.go:161", #[⟨4, .data⟩], none⟩ (.int .i64 s) (.inl ⟨by rfl, ?_⟩) hHeld ?_
 ·intro w ⟨h0, h1, h2, h3, h4, h5⟩
  go_simp
 try simp only [pt]
 refine tk 6 ⟨some 53, .move (.tmp 7), 140, "bold.go:161", #[], none⟩ (.pointer (some ⟨gT, 0, none⟩)) (.inl ⟨by rfl, ?_⟩) hHeld ?_
 ·intro w ⟨h0, h1, h2, h3, h4, h5⟩
  go_simp
 try simp only [pt]
 refine tk 7 ⟨some 54, .load 39 (.tmp 9), 39, "bold.go:161", #[], none⟩ (.agg #[.int .i64 cu, .int .i64 2, .int .i64 ln]) (.inl ⟨by rfl, ?_⟩) hHeld ?_
 ·intro w ⟨h0, h1, h2, h3, h4, h5⟩
  go_simp
 try simp only [pt]
 refine wpAnyH_ready (rs := [8]) (by kernel_rfl) (by simp) ?_
 refine AllReadyH.cons (o := ⟨some 55, .call ⟨.value (.func 105), #[.tmp 53, .tmp 54], #[140, 39]⟩, 139, "bold.go:161", #[⟨6, .data⟩, ⟨7, .data⟩], none⟩) rfl (fun K' hK' => ?_) AllReadyH.nil
 go_simp
 go_at_call 105
 refine Calls.mono (c105.out _) ?_
 rintro e w' ⟨rfl, hb⟩
 dsimp only
 refine hK'.out _ _ (Reg.below hHeld hb) (fun hHeld' => ?_)
 replace hB0 := below_then hB0 hB0.size hb
 clear hK' K' hHeld hb c105
 clear w0
 try simp only [pt]
 refine wpAnyH_ready (rs := [9]) (by kernel_rfl) (by simp) ?_
 refine AllReadyH.cons (o := ⟨some 56, .call ⟨.invoke (.tmp 55) "wayzgoose/bold.price", #[], #[]⟩, 3, "bold.go:161", #[⟨8, .data⟩, ⟨8, .chain⟩], none⟩) rfl (fun K' hK' => ?_) AllReadyH.nil
 go_simp
 go_at_call 162
 refine Calls.mono (cpr.out _ hHeld'.2.2.2.2.2) ?_
 rintro e w0 ⟨rfl, hb⟩
 dsimp only
 refine hK'.out _ _ (Reg.below hHeld' hb) (fun hHeld => ?_)
 replace hB0 := below_then hB0 hB0.size hb
 clear hK' K' hHeld' hb cpr
 clear w'
 try simp only [pt]
 refine wpAnyH_ready (rs := [10]) (by kernel_rfl) (by simp) ?_
 refine AllReadyH.cons (o := ⟨some 57, .binOp .add 3 (.tmp 52) (.tmp 56) 3, 3, "bold.go:161", #[⟨5, .data⟩, ⟨9, .data⟩], none⟩) rfl (fun K' hK' => ?_) AllReadyH.nil
 go_simp
 refine hK'.out _ _ hHeld (fun _ => ?_)
 clear hK' K'
 try simp only [pt]
 refine wpAnyH_done (by kernel_rfl) ?_ _
 show wpOps Try.prog c117_14 _ [11, 12, 13] _ _
 obtain ⟨h0, h1, h2, h3, h4, h5⟩ := hHeld
 refine wpOps_step (o := ⟨some 58, .indexAddr 153 (.tmp 47) (.tmp 49), 0, "bold.go:161", #[⟨0, .data⟩, ⟨2, .data⟩, ⟨0, .phase⟩, ⟨1, .phase⟩, ⟨2, .phase⟩, ⟨3, .phase⟩, ⟨4, .phase⟩, ⟨5, .phase⟩, ⟨6, .phase⟩, ⟨7, .phase⟩, ⟨8, .phase⟩, ⟨9, .phase⟩, ⟨10, .phase⟩], none⟩) rfl rfl fun K' hK' => ?_
 go_simp
 refine hK' _ _ ?_
 clear hK' K'
 try simp only [pt]
 refine wpOps_step (o := ⟨some 59, .fieldAddr 135 (.tmp 58) 0, 0, "bold.go:161", #[⟨11, .data⟩, ⟨0, .phase⟩, ⟨1, .phase⟩, ⟨2, .phase⟩, ⟨3, .phase⟩, ⟨4, .phase⟩, ⟨5, .phase⟩, ⟨6, .phase⟩, ⟨7, .phase⟩, ⟨8, .phase⟩, ⟨9, .phase⟩, ⟨10, .phase⟩], none⟩) rfl rfl fun K' hK' => ?_
 go_simp
 refine hK' _ _ ?_
 clear hK' K'
 try simp only [pt]
 refine wpOps_step (o := ⟨none, .store 3 (.tmp 59) (.tmp 57), 0, "bold.go:161", #[⟨12, .data⟩, ⟨10, .data⟩, ⟨9, .chain⟩, ⟨0, .phase⟩, ⟨1, .phase⟩, ⟨2, .phase⟩, ⟨3, .phase⟩, ⟨4, .phase⟩, ⟨5, .phase⟩, ⟨6, .phase⟩, ⟨7, .phase⟩, ⟨8, .phase⟩, ⟨9, .phase⟩, ⟨10, .phase⟩], none⟩) rfl rfl fun K' hK' => ?_
 go_simp
 refine hK' _ _ ?_
 clear hK' K'
 show K _ _
 rw [i64w (s + _)]
 exact hK _ _ (hg8.out _ _ _ _ _ _ _ _ _ _ _ _ _ w0 hB0)
set_option maxHeartbeats 4000000 in
theorem reg117_3 (bx gA gT n : Nat) (cu kd ln s : Int) (hx0 : 0 ≤ cu) (hx1 : cu < (n : Int)) (hk1 : ¬ kd = 1) (hk2 : ¬ kd = 2) t0 t1 t2 t4 t5 t6 t8 qY jA qN jS qC qL qW jT qA qK jQ qF qZ qH qB qI qU jR jW qQ qX qJ qR jU qD jX qM qS qE jY qV qP qO qG jZ jO jV jC jH jF jI jM jJ jN jG jL jB jD jK jE qT jP (W : World) (hR : Reg bx gA gT p b l c cu kd ln s W)
  (h : ∀ jC jH jF jI jM jJ jN jG jL jB jD jK jE W', Below W.heap.size W W' → To Try.prog cs X ((baseN 117).at ({ tmps := #[t0, t1, t2, .slice (some ⟨gA, 0, none⟩) n n, t4, t5, t6, ptr gT, t8, ptr bx, qY, jA, qN, jS, qC, qL, qW, jT, qA, qK, jQ, qF, qZ, qH, qB, qI, qU, jR, jW, qQ, qX, qJ, qR, jU, qD, jX, qM, qS, qE, jY, qV, qP, qO, qG, jZ, jO, jV, jC, jH, jF, jI, jM, jJ, jN, jG, jL, jB, jD, jK, jE, qT, jP], defers := [] } : Act) K) (W'.setCell ⟨gA, cu.toNat * 2, none⟩ (.int .i64 (wrap64 (s + (wrap64 (ln * c))))))) :
  To Try.prog cs X ((baseN 117).at ({ tmps := #[t0, t1, t2, .slice (some ⟨gA, 0, none⟩) n n, t4, t5, t6, ptr gT, t8, ptr bx, qY, jA, qN, jS, qC, qL, qW, jT, qA, qK, jQ, qF, qZ, qH, qB, qI, qU, jR, jW, qQ, qX, qJ, qR, jU, qD, jX, qM, qS, qE, jY, qV, qP, qO, qG, jZ, jO, jV, jC, jH, jF, jI, jM, jJ, jN, jG, jL, jB, jD, jK, jE, qT, jP], defers := [] } : Act) (.code (.region 14 c117_14 true) :: K)) W := by
 refine To.code fun K hK => ?_
 dsimp only at h
 have hg8 : Hid _ := h
 clear h
 have c105 : Hid (∀ w : World, Calls Try.prog 105 #[.pointer (some ⟨gT, 0, none⟩), .agg #[.int .i64 cu, .int .i64 kd, .int .i64 ln]] w fun e w' => e = .returned (.iface 163 (.agg #[.pointer (some ⟨gT, 0, none⟩), .int .i64 ln])) ∧ Below w.heap.size w w') := fun w => (calls105 gT ⟨cu, kd, ln⟩).mono fun e w' ⟨v, h1, h2, h3⟩ => ⟨by rw [h1, h2]; simp [advV, hk1, hk2], h3⟩
 have cpr : Hid (∀ w : World, w.heap[gT]? = some (.cells #[.int .i64 p, .int .i64 b, .int .i64 l, .int .i64 c] 158 (0, 0)) → Calls Try.prog 163 #[.agg #[.pointer (some ⟨gT, 0, none⟩), .int .i64 ln]] w fun e w' => e = .returned (.int .i64 (wrap64 (ln * c))) ∧ Below w.heap.size w w') := fun w hg => (calls163 hg).mono fun e w' ⟨v, h1, h2, h3⟩ => ⟨by rw [h1, h2], h3⟩
 have hm : ∀ W : World, (method 316 163 (.agg #[.pointer (some ⟨gT, 0, none⟩), .int .i64 ln]) "wayzgoose/bold.price").run Try.prog W = .ok (163, .agg #[.pointer (some ⟨gT, 0, none⟩), .int .i64 ln]) W := fun W => by kernel_rfl
 refine wp_region_cut (by kernel_rfl) cut117 (wpAny_of_held (S := Reg bx gA gT p b l c cu kd ln s) _ _ _ _ ?_)
 have hHeld : Reg bx gA gT p b l c cu kd ln s { W with drawn := W.drawn + 1 } := hR
 have hB0 : Below W.heap.size W { W with drawn := W.drawn + 1 } := Below.drew (Below.refl _ _)
 clear hR
 generalize ({ W with drawn := W.drawn + 1 } : World) = w0 at hHeld hB0 ⊢
 unfold h117
 refine tk 0 ⟨some 47, .move (.tmp 3), 153, "bold.go:161", #[], none⟩ (.slice (some ⟨gA, 0, none⟩) n n) (.inl ⟨by rfl, ?_⟩) hHeld ?_
 ·intro w ⟨h0, h1, h2, h3, h4, h5⟩
  go_simp
 try simp only [pt]
 refine tk 1 ⟨some 48, .fieldAddr 39 (.tmp 9) 0, 0, "bold.go:161", #[], none⟩ (.pointer (some ⟨bx, 0, none⟩)) (.inl ⟨by rfl, ?_⟩) hHeld ?_
 ·intro w ⟨h0, h1, h2, h3, h4, h5⟩
  go_simp
 try simp only [pt]
 refine tk 2 ⟨some 49, .load 3 (.tmp 48), 3, "bold.go:161", #[⟨1, .data⟩], none⟩ (.int .i64 cu) (.inl ⟨by rfl, ?_⟩) hHeld ?_
 ·intro w ⟨h0, h1, h2, h3, h4, h5⟩
  go_simp
 try simp only [pt]
 refine tk 3 ⟨some 50, .indexAddr 153 (.tmp 47) (.tmp 49), 0, "bold.go:161", #[⟨0, .data⟩, ⟨2, .data⟩], none⟩ (.pointer (some ⟨gA, cu.toNat * 2, none⟩)) (.inl ⟨by rfl, ?_⟩) hHeld ?_
 ·intro w ⟨h0, h1, h2, h3, h4, h5⟩
  go_simp
 try simp only [pt]
 refine tk 4 ⟨some 51, .fieldAddr 135 (.tmp 50) 0, 0, "bold.go:161", #[⟨3, .data⟩], none⟩ (.pointer (some ⟨gA, cu.toNat * 2, none⟩)) (.inl ⟨by rfl, ?_⟩) hHeld ?_
 ·intro w ⟨h0, h1, h2, h3, h4, h5⟩
  go_simp
 try simp only [pt]
 refine tk 5 ⟨some 52, .load 3 (.tmp 51), 3, "bold.go:161", #[⟨4, .data⟩], none⟩ (.int .i64 s) (.inl ⟨by rfl, ?_⟩) hHeld ?_
 ·intro w ⟨h0, h1, h2, h3, h4, h5⟩
  go_simp
 try simp only [pt]
 refine tk 6 ⟨some 53, .move (.tmp 7), 140, "bold.go:161", #[], none⟩ (.pointer (some ⟨gT, 0, none⟩)) (.inl ⟨by rfl, ?_⟩) hHeld ?_
 ·intro w ⟨h0, h1, h2, h3, h4, h5⟩
  go_simp
 try simp only [pt]
 refine tk 7 ⟨some 54, .load 39 (.tmp 9), 39, "bold.go:161", #[], none⟩ (.agg #[.int .i64 cu, .int .i64 kd, .int .i64 ln]) (.inl ⟨by rfl, ?_⟩) hHeld ?_
 ·intro w ⟨h0, h1, h2, h3, h4, h5⟩
  go_simp
 try simp only [pt]
 refine wpAnyH_ready (rs := [8]) (by kernel_rfl) (by simp) ?_
 refine AllReadyH.cons (o := ⟨some 55, .call ⟨.value (.func 105), #[.tmp 53, .tmp 54], #[140, 39]⟩, 139, "bold.go:161", #[⟨6, .data⟩, ⟨7, .data⟩], none⟩) rfl (fun K' hK' => ?_) AllReadyH.nil
 go_simp
 go_at_call 105
 refine Calls.mono (c105.out _) ?_
 rintro e w' ⟨rfl, hb⟩
 dsimp only
 refine hK'.out _ _ (Reg.below hHeld hb) (fun hHeld' => ?_)
 replace hB0 := below_then hB0 hB0.size hb
 clear hK' K' hHeld hb c105
 clear w0
 try simp only [pt]
 refine wpAnyH_ready (rs := [9]) (by kernel_rfl) (by simp) ?_
 refine AllReadyH.cons (o := ⟨some 56, .call ⟨.invoke (.tmp 55) "wayzgoose/bold.price", #[], #[]⟩, 3, "bold.go:161", #[⟨8, .data⟩, ⟨8, .chain⟩], none⟩) rfl (fun K' hK' => ?_) AllReadyH.nil
 go_simp
 go_at_call 163
 refine Calls.mono (cpr.out _ hHeld'.2.2.2.2.2) ?_
 rintro e w0 ⟨rfl, hb⟩
 dsimp only
 refine hK'.out _ _ (Reg.below hHeld' hb) (fun hHeld => ?_)
 replace hB0 := below_then hB0 hB0.size hb
 clear hK' K' hHeld' hb cpr
 clear w'
 try simp only [pt]
 refine wpAnyH_ready (rs := [10]) (by kernel_rfl) (by simp) ?_
 refine AllReadyH.cons (o := ⟨some 57, .binOp .add 3 (.tmp 52) (.tmp 56) 3, 3, "bold.go:161", #[⟨5, .data⟩, ⟨9, .data⟩], none⟩) rfl (fun K' hK' => ?_) AllReadyH.nil
 go_simp
 refine hK'.out _ _ hHeld (fun _ => ?_)
 clear hK' K'
 try simp only [pt]
 refine wpAnyH_done (by kernel_rfl) ?_ _
 show wpOps Try.prog c117_14 _ [11, 12, 13] _ _
 obtain ⟨h0, h1, h2, h3, h4, h5⟩ := hHeld
 refine wpOps_step (o := ⟨some 58, .indexAddr 153 (.tmp 47) (.tmp 49), 0, "bold.go:161", #[⟨0, .data⟩, ⟨2, .data⟩, ⟨0, .phase⟩, ⟨1, .phase⟩, ⟨2, .phase⟩, ⟨3, .phase⟩, ⟨4, .phase⟩, ⟨5, .phase⟩, ⟨6, .phase⟩, ⟨7, .phase⟩, ⟨8, .phase⟩, ⟨9, .phase⟩, ⟨10, .phase⟩], none⟩) rfl rfl fun K' hK' => ?_
 go_simp
 refine hK' _ _ ?_
 clear hK' K'
 try simp only [pt]
 refine wpOps_step (o := ⟨some 59, .fieldAddr 135 (.tmp 58) 0, 0, "bold.go:161", #[⟨11, .data⟩, ⟨0, .phase⟩, ⟨1, .phase⟩, ⟨2, .phase⟩, ⟨3, .phase⟩, ⟨4, .phase⟩, ⟨5, .phase⟩, ⟨6, .phase⟩, ⟨7, .phase⟩, ⟨8, .phase⟩, ⟨9, .phase⟩, ⟨10, .phase⟩], none⟩) rfl rfl fun K' hK' => ?_
 go_simp
 refine hK' _ _ ?_
 clear hK' K'
 try simp only [pt]
 refine wpOps_step (o := ⟨none, .store 3 (.tmp 59) (.tmp 57), 0, "bold.go:161", #[⟨12, .data⟩, ⟨10, .data⟩, ⟨9, .chain⟩, ⟨0, .phase⟩, ⟨1, .phase⟩, ⟨2, .phase⟩, ⟨3, .phase⟩, ⟨4, .phase⟩, ⟨5, .phase⟩, ⟨6, .phase⟩, ⟨7, .phase⟩, ⟨8, .phase⟩, ⟨9, .phase⟩, ⟨10, .phase⟩], none⟩) rfl rfl fun K' hK' => ?_
 go_simp
 refine hK' _ _ ?_
 clear hK' K'
 show K _ _
 rw [i64w (s + _)]
 exact hK _ _ (hg8.out _ _ _ _ _ _ _ _ _ _ _ _ _ w0 hB0)
end
theorem index_is (xs : List Int) (a : Int) (hlen : xs.length < 1000000) : ∀ (d i : Nat), i + d = xs.length → ∃ r, slices_Index_int_int.l0 (d + 1) xs a (xs.length : Int) (i : Int) = some r ∧ decide (r ≥ 0) = (xs.drop i).contains a
 | 0, i, h => by
  refine ⟨-1, ?_, ?_⟩
  ·simp only [slices_Index_int_int.l0]
   rw [if_neg (by omega)]
  ·rw [List.drop_of_length_le (by omega)]; rfl
 | d + 1, i, h => by
  have hi : i < xs.length := by omega
  have hrd : rd xs (i : Int) = xs[i] := by simp [rd, List.getD_eq_getElem?_getD, hi]
  rw [slices_Index_int_int.l0, if_pos (by omega), if_pos (by omega), if_pos (by omega), hrd, List.drop_eq_getElem_cons hi, List.contains_cons]
  by_cases ha : a = xs[i]
  ·rw [if_pos ha]
   exact ⟨_, rfl, by simp [ha]⟩
  ·rw [if_neg ha]
   obtain ⟨r, h1, h2⟩ := index_is xs a hlen d (i + 1) (by omega)
   have e : wrap64 ((i : Int) + 1) = ((i + 1 : Nat) : Int) := by unfold wrap64; omega
   rw [e]
   refine ⟨r, h1, ?_⟩
   rw [h2]
   have : (a == xs[i]) = false := by simpa using ha
   rw [this, Bool.false_or]
theorem calls129 {W : World} {base : Nat} {V : Value} {xs : List Int} (h : W.ownsRow base 3 1 V xs.length (nums .i64 xs)) (hlen : xs.length < 1000000) (a : Int) : Calls Try.prog 129 #[V, .int .i64 a] W fun e w' => e = .returned (.bool (xs.contains a)) ∧ Drawn0 W w' := by
 obtain ⟨A, c, rfl, hl, hC⟩ := Kd.R_reads (Kd.R_of_own (enc := Value.int .i64) (h1 := fun _ => rfl) (ok := fun _ => True) h (fun _ _ => trivial))
 obtain ⟨r, h1, h2⟩ := index_is xs a hlen xs.length 0 (Nat.zero_add _)
 refine slices_Contains_int_int.calls (xs.length + 1) A c xs a _ W hC hl ?_
 unfold slices_Contains_int_int.f slices_Index_int_int.f
 have h1' : slices_Index_int_int.l0 (xs.length + 1) xs a (xs.length : Int) 0 = some r := h1
 rw [h1', Option.bind_some, h2]
 rfl
def cellsOf (l : List (Int × Value)) : List Value := l.flatMap fun p => [.int .i64 p.1, p.2]
theorem cellsOf_get : ∀ (l : List (Int × Value)) (k : Nat) (p : Int × Value), l[k]? = some p → (cellsOf l)[k * 2]? = some (.int .i64 p.1) ∧ (cellsOf l)[k * 2 + 1]? = some p.2
 | [], k, p, h => by simp at h
 | q :: l, 0, p, h => by obtain rfl := Option.some.inj h; exact ⟨rfl, rfl⟩
 | q :: l, k + 1, p, h => by
  have := cellsOf_get l k p h
  rw [show (k + 1) * 2 = k * 2 + 2 by omega]
  exact this
theorem cellsOf_set1 : ∀ (l : List (Int × Value)) (k : Nat) (p : Int × Value) (v : Value), l[k]? = some p → (cellsOf l).set (k * 2 + 1) v = cellsOf (l.set k (p.1, v))
 | [], k, p, v, h => by simp at h
 | q :: l, 0, p, v, h => by obtain rfl := Option.some.inj h; rfl
 | q :: l, k + 1, p, v, h => by
  have := cellsOf_set1 l k p v h
  rw [show (k + 1) * 2 + 1 = (k * 2 + 1) + 2 by omega]
  show _ :: _ :: (cellsOf l).set (k * 2 + 1) v = _
  rw [this]; rfl
theorem accCells_get' (bs : Nat) (l : List (Int × Option Int)) (k : Nat) (p : Int × Option Int) (h : l[k]? = some p) : (accCells bs l)[k * 2]? = some (.int .i64 p.1) := by
 have := (accCells_get bs l k p h).1
 rwa [Nat.mul_comm] at this
theorem accCells_set (bs : Nat) : ∀ (l : List (Int × Option Int)) (k : Nat) (p : Int × Option Int) (s : Int), l[k]? = some p → (accCells bs l).set (k * 2) (.int .i64 s) = accCells bs (l.set k (s, p.2))
 | [], k, p, s, h => by simp at h
 | q :: l, 0, p, s, h => by obtain rfl := Option.some.inj h; rfl
 | q :: l, k + 1, p, s, h => by
  have := accCells_set bs l k p s h
  rw [show (k + 1) * 2 = (k * 2) + 2 by omega]
  show _ :: _ :: (accCells bs l).set (k * 2) _ = _
  rw [this]; rfl
theorem accCells_is (bs : Nat) (l : List (Int × Option Int)) : accCells bs l = cellsOf (l.map fun p => (p.1, billv bs p.2)) := by
 unfold accCells cellsOf
 rw [List.flatMap_map]
def addP (p b l c : Int) (L : List (Int × Option Int)) (x : S39) : List (Int × Option Int) := L.set x.f0.toNat (wrap64 ((L.getD x.f0.toNat (0, none)).1 + priceOf p b l c x), (L.getD x.f0.toNat (0, none)).2)
def billed (ch : List Int) (off : Int) (st : Int) : Option Int := if ch.contains st then some off else none
def begun (ch streets : List Int) (off : Int) : List (Int × Option Int) := streets.map fun st => (0, billed ch off st)
def accountsOf (p b l c off grp : Int) (streets : List Int) (adv : List S39) : List (Int × Option Int) := adv.foldl (addP p b l c) (begun (cheap streets adv grp 10) streets off)
theorem addP_length (p b l c : Int) (L : List (Int × Option Int)) (x : S39) : (addP p b l c L x).length = L.length := by simp [addP]
theorem fold_length (p b l c : Int) : ∀ (adv : List S39) (L : List (Int × Option Int)), (adv.foldl (addP p b l c) L).length = L.length
 | [], L => rfl
 | x :: adv, L => by rw [List.foldl_cons, fold_length p b l c adv, addP_length]
theorem addP_off {p b l c : Int} {L : List (Int × Option Int)} {x : S39} {off : Int} (h : ∀ q ∈ L, ∀ o, q.2 = some o → o = off) : ∀ q ∈ addP p b l c L x, ∀ o, q.2 = some o → o = off := by
 intro q hq o ho
 unfold addP at hq
 rcases List.mem_or_eq_of_mem_set hq with hq | rfl
 ·exact h q hq o ho
 ·simp only [List.getD_eq_getElem?_getD] at ho
  cases hx : L[x.f0.toNat]? with
  | none => rw [hx] at ho; cases ho
  | some y => rw [hx] at ho; exact h y (List.mem_of_getElem? hx) o ho
theorem fold_off {p b l c off : Int} : ∀ (adv : List S39) (L : List (Int × Option Int)), (∀ q ∈ L, ∀ o, q.2 = some o → o = off) → ∀ q ∈ adv.foldl (addP p b l c) L, ∀ o, q.2 = some o → o = off
 | [], L, h => h
 | x :: adv, L, h => fold_off adv _ (addP_off h)
theorem accountsOf_length (p b l c off grp : Int) (streets : List Int) (adv : List S39) : (accountsOf p b l c off grp streets adv).length = streets.length := by
 rw [accountsOf, fold_length]; simp [begun]
theorem accountsOf_off (p b l c off grp : Int) (streets : List Int) (adv : List S39) : ∀ q ∈ accountsOf p b l c off grp streets adv, ∀ o, q.2 = some o → o = off := by
 refine fold_off adv _ fun q hq o ho => ?_
 obtain ⟨st, _, rfl⟩ := List.mem_map.1 hq
 unfold billed at ho
 dsimp only at ho
 split at ho
 ·exact (Option.some.inj ho).symm
 ·cases ho
section
variable {cs : List Frame} {X : Frame → World → Prop} {K : List Item} {w0 : World} {p b l c off grp : Int} {As Aa : Option Addr} {ns ca cs0 na : Nat} {streets : List Int} {adv : List S39}
structure In117 (w0 : World) (sales : Array Value) (cells : List Value) (W : World) : Prop where
 old : Below (w0.heap.size + 1) (w0.alloc (.cells sales 36)) W
 two : w0.heap.size + 2 ≤ W.heap.size
 row : W.heap[w0.heap.size + 1]? = some (.cells cells.toArray 135 (0, 0))
theorem grown_set (W : World) (a : Addr) (v : Value) : W.grownBy (W.setCell a v) (some a.block) := ⟨rfl, rfl, rfl, by simp [World.setCell], fun k _ hne => Below.heap_setCell W a v k (fun e => hne (by rw [e]))⟩
theorem In117.set {sales : Array Value} {cells : List Value} {W : World} (h : In117 w0 sales cells W) (i : Nat) (v : Value) : In117 w0 sales (cells.set i v) (W.setCell ⟨w0.heap.size + 1, i, none⟩ v) :=
 ⟨h.old.setCell (Nat.le_refl _) v, by simpa [World.setCell] using h.two, by
  rw [heap_setCell_of h.row, Array.getElem?_setIfInBounds_self_of_lt (lt_of_some h.row)]
  simp⟩
theorem In117.below {sales : Array Value} {cells : List Value} {W W' : World} (h : In117 w0 sales cells W) (hb : Below W.heap.size W W') : In117 w0 sales cells W' :=
 ⟨below_then h.old (Nat.le_of_succ_le h.two) hb, Nat.le_trans h.two hb.size, (hb.block _ h.two).trans h.row⟩
def part1 (ch streets : List Int) (off : Int) (bs k : Nat) : List (Int × Value) := streets.zipIdx.map fun q => (0, if q.2 < k then billv bs (billed ch off q.1) else .nilFunc)
theorem part1_get (ch streets : List Int) (off : Int) (bs k i : Nat) (st : Int) (h : streets[i]? = some st) : (part1 ch streets off bs k)[i]? = some (0, if i < k then billv bs (billed ch off st) else .nilFunc) := by
 simp [part1, List.getElem?_map, List.getElem?_zipIdx, h]
theorem part1_len (ch streets : List Int) (off : Int) (bs k : Nat) : (part1 ch streets off bs k).length = streets.length := by simp [part1]
theorem part1_set (ch streets : List Int) (off : Int) (bs k : Nat) (st : Int) (h : streets[k]? = some st) : (part1 ch streets off bs k).set k (0, billv bs (billed ch off st)) = part1 ch streets off bs (k + 1) := by
 apply List.ext_getElem?
 intro i
 have hk : k < streets.length := (List.getElem?_eq_some_iff.1 h).1
 rw [List.getElem?_set]
 cases hi : streets[i]? with
 | none =>
  have : streets.length ≤ i := List.getElem?_eq_none_iff.1 hi
  rw [if_neg (by omega), List.getElem?_eq_none (by rw [part1_len]; omega), List.getElem?_eq_none (by rw [part1_len]; omega)]
 | some s =>
  rw [part1_get _ _ _ _ _ _ _ hi, part1_get _ _ _ _ _ _ _ hi]
  by_cases hki : k = i
  ·subst hki
   rw [if_pos rfl, if_pos (by rw [part1_len]; omega), if_pos (by omega)]
   rw [h] at hi
   rw [Option.some.inj hi]
  ·rw [if_neg hki]
   by_cases hik : i < k
   ·rw [if_pos hik, if_pos (by omega)]
   ·rw [if_neg hik, if_neg (by omega)]
theorem part1_end (ch streets : List Int) (off : Int) (bs : Nat) : part1 ch streets off bs streets.length = (begun ch streets off).map fun q => (q.1, billv bs q.2) := by
 apply List.ext_getElem?
 intro i
 cases hi : streets[i]? with
 | none =>
  have : streets.length ≤ i := List.getElem?_eq_none_iff.1 hi
  rw [List.getElem?_eq_none (by rw [part1_len]; omega), List.getElem?_eq_none (by simp [begun]; omega)]
 | some s =>
  rw [part1_get _ _ _ _ _ _ _ hi, if_pos (List.getElem?_eq_some_iff.1 hi).1]
  simp [begun, hi]
theorem fill117 (hS : Sold w0 As ns Aa na streets adv) (V : Value) (ch : List Int) (hch : ch.length ≤ 10)
  (hend : ∀ t0 t2 t5 t6 t7 t8 t9 qS jS qJ jR qA qH qQ qU qV qW jP qD qT qE jZ qF qO jQ jV qK qR qG qL jT qB jW qI qM qC jX qP qZ qY qX jY jN jU jB jG jE jH jL jI jM jF jK jA jC jJ jD qN jO W, In117 w0 (sal p b l c off grp As ns cs0 Aa na ca) (cellsOf (part1 ch streets off w0.heap.size ns)) W → To Try.prog cs X ((baseN 117).at ({ tmps := #[t0, ptr w0.heap.size, t2, .slice (some ⟨w0.heap.size + 1, 0, none⟩) ns ns, V, t5, t6, t7, t8, t9, qS, jS, qJ, jR, qA, qH, qQ, qU, qV, qW, jP, qD, qT, qE, jZ, qF, qO, jQ, jV, qK, qR, qG, qL, jT, qB, jW, qI, qM, qC, jX, qP, qZ, qY, qX, jY, jN, jU, jB, jG, jE, jH, jL, jI, jM, jF, jK, jA, jC, jJ, jD, qN, jO], defers := [] } : Act) K) W) :
  ∀ (r k : Nat), k + r = ns → ∀ t0 t2 t5 t6 t7 t8 t9 qS jS qJ jR qA qH qQ jP qD qT qE jZ qF qO jQ jV qK qR qG qL jT qB jW qI qM qC jX qP qZ qY qX jY jN jU jB jG jE jH jL jI jM jF jK jA jC jJ jD qN jO W, In117 w0 (sal p b l c off grp As ns cs0 Aa na ca) (cellsOf (part1 ch streets off w0.heap.size k)) W → W.ownsRow (w0.heap.size + 2) 3 1 V ch.length (nums .i64 ch) →
   To Try.prog cs X ((baseN 117).at ({ tmps := #[t0, ptr w0.heap.size, t2, .slice (some ⟨w0.heap.size + 1, 0, none⟩) ns ns, V, t5, t6, t7, t8, t9, qS, jS, qJ, jR, qA, qH, qQ, .slice As ns cs0, .int .i64 ns, .int .i64 k, jP, qD, qT, qE, jZ, qF, qO, jQ, jV, qK, qR, qG, qL, jT, qB, jW, qI, qM, qC, jX, qP, qZ, qY, qX, jY, jN, jU, jB, jG, jE, jH, jL, jI, jM, jF, jK, jA, jC, jJ, jD, qN, jO], defers := [] } : Act) (.code l117_0 :: .inLoop l117_0 :: .inBlock 0 :: K)) W := by
 intro r
 induction r with
 | zero =>
  intro k hk t0 t2 t5 t6 t7 t8 t9 qS jS qJ jR qA qH qQ jP qD qT qE jZ qF qO jQ jV qK qR qG qL jT qB jW qI qM qC jX qP qZ qY qX jY jN jU jB jG jE jH jL jI jM jF jK jA jC jJ jD qN jO W hI hV
  obtain rfl : k = ns := by omega
  replace hI : Hid _ := hI
  replace hV : Hid _ := hV
  have hlt : ¬ ((k : Int) < (k : Int)) := by omega
  refine To.seq (To.code fun K hK => ?_)
  unfold c117_4
  go_wp2
  refine hK _ _ (To.seq (To.no rfl (To.exit rfl ?_)))
  exact hend _ _ _ _ _ _ _ _ _ _ _ _ _ _ _ _ _ _ _ _ _ _ _ _ _ _ _ _ _ _ _ _ _ _ _ _ _ _ _ _ _ _ _ _ _ _ _ _ _ _ _ _ _ _ _ _ _ _ _ W hI.out
 | succ r ih =>
  intro k hk t0 t2 t5 t6 t7 t8 t9 qS jS qJ jR qA qH qQ jP qD qT qE jZ qF qO jQ jV qK qR qG qL jT qB jW qI qM qC jX qP qZ qY qX jY jN jU jB jG jE jH jL jI jM jF jK jA jC jJ jD qN jO W hI hV
  dsimp only at ih hend
  replace ih : Hid _ := ih
  replace hend : Hid _ := hend
  have hlt : (k : Int) < (ns : Int) := by omega
  have hkl : k < streets.length := by rw [hS.lens]; omega
  obtain ⟨st, hst⟩ : ∃ st, streets[k]? = some st := ⟨_, List.getElem?_eq_getElem hkl⟩
  obtain ⟨sd, es, hs0⟩ := Kd.at_int hS.st (k : Int) (by omega) hlt
  subst es
  have hrd : rd streets (k : Int) = st := by simp [rd, List.getD_eq_getElem?_getD, hst]
  rw [hrd] at hs0
  have hB : Below w0.heap.size w0 W := ((Below.refl _ _).alloc (Nat.le_refl _) _).trans (hI.old.mono (Nat.le_succ _))
  replace hs0 := (hB.cell (World.block_lt_of_cell? w0 _ hs0)).trans hs0
  simp only [Int.toNat_natCast] at hs0
  have hmax := hS.maxs
  have hg := part1_get ch streets off w0.heap.size k k st hst
  rw [if_neg (Nat.lt_irrefl k)] at hg
  have hc1 : W.cell? ⟨w0.heap.size + 1, k * 2 + 1, none⟩ = some .nilFunc := by
   have h := blk_cell hI.row (k * 2 + 1)
   rw [h]
   simpa using (cellsOf_get _ k _ hg).2
  have hf1 : W.frozen? ⟨w0.heap.size + 1, k * 2 + 1, none⟩ = false := by simp [World.frozen?, hI.row]
  have hI1 := hI.set (k * 2 + 1) (.func (.func 128) #[] #[])
  have hV1 : (W.setCell ⟨w0.heap.size + 1, k * 2 + 1, none⟩ (.func (.func 128) #[] #[])).ownsRow (w0.heap.size + 2) 3 1 V ch.length (nums .i64 ch) := row_other hV (Nat.lt_succ_self _) (grown_set W _ _)
  rw [cellsOf_set1 _ _ _ _ hg] at hI1
  replace hI1 : Hid _ := hI1
  replace hV1 : Hid _ := hV1
  clear hI hV hB hS hrd
  refine To.seq (To.code fun K hK => ?_)
  unfold c117_4
  go_wp2
  refine hK _ _ (To.seq (To.yes rfl (To.skip (To.seq (To.block (To.seq (To.code fun K hK => ?_)))))))
  unfold c117_5
  go_wp2
  refine hK _ _ (To.seq (To.code fun K hK => ?_))
  unfold c117_6
  go_wp2
  refine hK _ _ (To.seq (To.code fun K hK => ?_))
  have c129 : Hid (∀ w', w' = W.setCell ⟨w0.heap.size + 1, k * 2 + 1, none⟩ (.func (.func 128) #[] #[]) → Calls Try.prog 129 #[V, .int .i64 st] w' fun e w'' => e = .returned (.bool (ch.contains st)) ∧ Drawn0 w' w'') := fun w' hw' => by subst hw'; exact calls129 hV1.out (by omega) st
  clear hc1 hf1 hs0
  generalize hW1 : W.setCell ⟨w0.heap.size + 1, k * 2 + 1, none⟩ (.func (.func 128) #[] #[]) = W1 at hI1 hV1 c129 ⊢
  clear hW1 hg
  clear W
  unfold c117_7
  go_wp2_with (go_at_call 129; refine Calls.mono (c129.out _ rfl) ?_; rintro e w' ⟨rfl, nd, rfl⟩; dsimp only)
  have hI2 : In117 w0 (sal p b l c off grp (some sd) ns cs0 Aa na ca) (cellsOf ((part1 ch streets off w0.heap.size k).set k (0, .func (.func 128) #[] #[]))) (W1.drewN nd) := ⟨pw_below_drewN hI1.out.old nd, hI1.out.two, hI1.out.row⟩
  have hV2 : (W1.drewN nd).ownsRow (w0.heap.size + 2) 3 1 V ch.length (nums .i64 ch) := hV1.out
  clear c129 hI1 hV1
  generalize W1.drewN nd = W2 at hI2 hV2 ⊢
  clear W1
  have hset := part1_set ch streets off w0.heap.size k st hst
  have hgk : ((part1 ch streets off w0.heap.size k).set k (0, .func (.func 128) #[] #[]))[k]? = some (0, .func (.func 128) #[] #[]) := by
   rw [List.getElem?_set_self (by rw [part1_len]; omega)]
  have hc1 : W2.cell? ⟨w0.heap.size + 1, k * 2 + 1, none⟩ = some (.func (.func 128) #[] #[]) := by
   have h := blk_cell hI2.row (k * 2 + 1)
   rw [h]
   simpa using (cellsOf_get _ k _ hgk).2
  have hf1 : W2.frozen? ⟨w0.heap.size + 1, k * 2 + 1, none⟩ = false := by simp [World.frozen?, hI2.row]
  cases hcon : ch.contains st with
  | true =>
   have hb : billed ch off st = some off := by unfold billed; rw [if_pos hcon]
   rw [hb] at hset
   have hI3 := hI2.set (k * 2 + 1) (.func (.func 130) #[] #[ptr w0.heap.size])
   rw [cellsOf_set1 _ _ _ _ hgk, List.set_set] at hI3
   have hV3 := row_other hV2 (Nat.lt_succ_self _) (grown_set W2 ⟨w0.heap.size + 1, k * 2 + 1, none⟩ (.func (.func 130) #[] #[ptr w0.heap.size]))
   have hI4 : In117 w0 (sal p b l c off grp (some sd) ns cs0 Aa na ca) (cellsOf (part1 ch streets off w0.heap.size (k + 1))) (W2.setCell ⟨w0.heap.size + 1, k * 2 + 1, none⟩ (.func (.func 130) #[] #[ptr w0.heap.size])) := by rw [← hset]; exact hI3
   replace hI4 : Hid _ := hI4
   replace hV3 : Hid _ := hV3
   clear hI2 hV2 hI3 hset hgk hb
   refine hK _ _ (To.yes rfl (To.code fun K hK => ?_))
   unfold c117_8
   go_wp2
   refine hK _ _ (To.inBlock (To.code fun K hK => ?_))
   clear hc1 hf1 hcon
   unfold c117_9
   go_wp2
   rw [show ((k : Int) + 1) = ((k + 1 : Nat) : Int) by omega]
   exact hK _ _ (To.inLoop (ih.out (k + 1) (by omega) _ _ _ _ _ _ _ _ _ _ _ _ _ _ _ _ _ _ _ _ _ _ _ _ _ _ _ _ _ _ _ _ _ _ _ _ _ _ _ _ _ _ _ _ _ _ _ _ _ _ _ _ _ _ _ _ _ hI4.out hV3.out))
  | false =>
   have hb : billed ch off st = none := by unfold billed; rw [hcon]; rfl
   rw [hb] at hset
   have hI4 : In117 w0 (sal p b l c off grp (some sd) ns cs0 Aa na ca) (cellsOf (part1 ch streets off w0.heap.size (k + 1))) W2 := by rw [← hset]; exact hI2
   replace hI4 : Hid _ := hI4
   replace hV2 : Hid _ := hV2
   clear hI2 hset hgk hb hc1 hf1
   refine hK _ _ (To.no rfl (To.skip (To.inBlock (To.code fun K hK => ?_))))
   clear hcon
   unfold c117_9
   go_wp2
   rw [show ((k : Int) + 1) = ((k + 1 : Nat) : Int) by omega]
   exact hK _ _ (To.inLoop (ih.out (k + 1) (by omega) _ _ _ _ _ _ _ _ _ _ _ _ _ _ _ _ _ _ _ _ _ _ _ _ _ _ _ _ _ _ _ _ _ _ _ _ _ _ _ _ _ _ _ _ _ _ _ _ _ _ _ _ _ _ _ _ _ hI4.out hV2.out))
theorem sum117 (hS : Sold w0 As ns Aa na streets adv) (gT : Nat) (hgT : w0.heap.size + 2 ≤ gT) (L0 : List (Int × Option Int)) (hL0 : L0.length = ns)
  (hend : ∀ t0 t2 t4 t5 t6 t7 t8 t9 qS jS qJ jR qA qH qQ qU qV qW jP qD qT qE jZ qF qO jQ jV qK qR qG qL jT qB jW qI qM qC jX qP qZ qY qX jY jN jU jB jG jE jH jL jI jM jF jK jA jC jJ jD qN jO W, In117 w0 (sal p b l c off grp As ns cs0 Aa na ca) (accCells w0.heap.size (adv.foldl (addP p b l c) L0)) W → To Try.prog cs X ((baseN 117).at ({ tmps := #[t0, ptr w0.heap.size, t2, .slice (some ⟨w0.heap.size + 1, 0, none⟩) ns ns, t4, t5, t6, t7, t8, t9, qS, jS, qJ, jR, qA, qH, qQ, qU, qV, qW, jP, qD, qT, qE, jZ, qF, qO, jQ, jV, qK, qR, qG, qL, jT, qB, jW, qI, qM, qC, jX, qP, qZ, qY, qX, jY, jN, jU, jB, jG, jE, jH, jL, jI, jM, jF, jK, jA, jC, jJ, jD, qN, jO], defers := [] } : Act) K) W) :
  ∀ (r i : Nat), i + r = na → ∀ t0 t2 t4 t5 t6 t8 t9 qS jS qJ jR qA qH qQ qU qV qW jP qD qT qE jZ qF qO jQ jV qK qR qG qL jT qB jW qI qM qC jX qP jY jN jU jB jG jE jH jL jI jM jF jK jA jC jJ jD qN jO W, In117 w0 (sal p b l c off grp As ns cs0 Aa na ca) (accCells w0.heap.size ((adv.take i).foldl (addP p b l c) L0)) W → W.heap[gT]? = some (.cells #[.int .i64 p, .int .i64 b, .int .i64 l, .int .i64 c] 158 (0, 0)) →
   To Try.prog cs X ((baseN 117).at ({ tmps := #[t0, ptr w0.heap.size, t2, .slice (some ⟨w0.heap.size + 1, 0, none⟩) ns ns, t4, t5, t6, ptr gT, t8, t9, qS, jS, qJ, jR, qA, qH, qQ, qU, qV, qW, jP, qD, qT, qE, jZ, qF, qO, jQ, jV, qK, qR, qG, qL, jT, qB, jW, qI, qM, qC, jX, qP, .slice Aa na ca, .int .i64 na, .int .i64 i, jY, jN, jU, jB, jG, jE, jH, jL, jI, jM, jF, jK, jA, jC, jJ, jD, qN, jO], defers := [] } : Act) (.code l117_1 :: .inLoop l117_1 :: .inBlock 2 :: K)) W := by
 intro r
 induction r with
 | zero =>
  intro i hi t0 t2 t4 t5 t6 t8 t9 qS jS qJ jR qA qH qQ qU qV qW jP qD qT qE jZ qF qO jQ jV qK qR qG qL jT qB jW qI qM qC jX qP jY jN jU jB jG jE jH jL jI jM jF jK jA jC jJ jD qN jO W hI hT
  obtain rfl : i = na := by omega
  rw [List.take_of_length_le (by rw [hS.lena]; exact Nat.le_refl _)] at hI
  replace hI : Hid _ := hI
  have hlt : ¬ ((i : Int) < (i : Int)) := by omega
  refine To.seq (To.code fun Kc hKc => ?_)
  unfold c117_12
  go_wp2
  refine hKc _ _ (To.seq (To.no rfl (To.exit rfl ?_)))
  exact hend _ _ _ _ _ _ _ _ _ _ _ _ _ _ _ _ _ _ _ _ _ _ _ _ _ _ _ _ _ _ _ _ _ _ _ _ _ _ _ _ _ _ _ _ _ _ _ _ _ _ _ _ _ _ _ _ _ _ _ _ W hI.out
 | succ r ih =>
  intro i hi t0 t2 t4 t5 t6 t8 t9 qS jS qJ jR qA qH qQ qU qV qW jP qD qT qE jZ qF qO jQ jV qK qR qG qL jT qB jW qI qM qC jX qP jY jN jU jB jG jE jH jL jI jM jF jK jA jC jJ jD qN jO W hI hT
  dsimp only at ih hend
  replace ih : Hid _ := ih
  replace hend : Hid _ := hend
  have hlt : (i : Int) < (na : Int) := by omega
  have hx : adv[i]? = some (rd_T39 adv i) := by
   have h1 : i < adv.length := by rw [hS.lena]; omega
   rw [List.getElem?_eq_getElem h1]
   simp [rd_T39, List.getD_eq_getElem?_getD, h1]
  obtain ⟨ad, e, h0, h1, h2⟩ := at_T39 hS.ad (i : Int) (by omega) hlt
  have hwho := hS.who _ (List.mem_of_getElem? hx)
  generalize hxx : rd_T39 adv i = x at hx h0 h1 h2 hwho
  clear hxx
  simp only [Int.toNat_natCast] at h0 h1 h2
  subst e
  have hB : Below w0.heap.size w0 W := ((Below.refl _ _).alloc (Nat.le_refl _) _).trans (hI.old.mono (Nat.le_succ _))
  replace h0 := (hB.cell (World.block_lt_of_cell? w0 _ h0)).trans h0
  replace h1 := (hB.cell (World.block_lt_of_cell? w0 _ h1)).trans h1
  replace h2 := (hB.cell (World.block_lt_of_cell? w0 _ h2)).trans h2
  have hmax := hS.maxa
  have hlenL : ((adv.take i).foldl (addP p b l c) L0).length = ns := by rw [fold_length, hL0]
  have htake : (adv.take (i + 1)).foldl (addP p b l c) L0 = addP p b l c ((adv.take i).foldl (addP p b l c) L0) x := by
   rw [List.take_add_one, hx, List.foldl_append]; rfl
  generalize hLL : (adv.take i).foldl (addP p b l c) L0 = L at hI hlenL htake
  clear hLL
  have hcl : x.f0.toNat < L.length := by rw [hlenL]; omega
  obtain ⟨q, hq⟩ : ∃ q, L[x.f0.toNat]? = some q := ⟨_, List.getElem?_eq_getElem hcl⟩
  have hadd : addP p b l c L x = L.set x.f0.toNat (wrap64 (q.1 + priceOf p b l c x), q.2) := by
   unfold addP
   rw [List.getD_eq_getElem?_getD, hq]; rfl
  rw [hadd] at htake
  have HI : Hid _ := hI
  have HT : Hid (W.heap[gT]? = some (.cells #[.int .i64 p, .int .i64 b, .int .i64 l, .int .i64 c] 158 (0, 0))) := hT
  have HW : Hid (0 ≤ x.f0 ∧ x.f0 < (ns : Int)) := hwho
  clear hI hT hB hwho hS hadd hL0 hlenL hcl
  refine To.seq (To.code fun Kc hKc => ?_)
  unfold c117_12
  go_wp2
  refine hKc _ _ (To.seq (To.yes rfl (To.skip (To.seq (To.block (To.seq (To.code fun Kc hKc => ?_)))))))
  unfold c117_13
  go_wp2
  refine hKc _ _ ?_
  clear hKc h0 h1 h2
  have hI2 := HI.out.below (below_alloc (Below.refl _ _) (Obj.cells #[.int .i64 x.f0, .int .i64 x.f1, .int .i64 x.f2] 39))
  have hb0 := cell_box W #[.int .i64 x.f0, .int .i64 x.f1, .int .i64 x.f2] 39
  have hT2 : (W.alloc (Obj.cells #[.int .i64 x.f0, .int .i64 x.f1, .int .i64 x.f2] 39)).heap[gT]? = _ := ((below_alloc (Below.refl W.heap.size W) _).block gT (lt_of_some HT.out)).trans HT.out
  have hR : Reg W.heap.size (w0.heap.size + 1) gT p b l c x.f0 x.f1 x.f2 q.1 (W.alloc (Obj.cells #[.int .i64 x.f0, .int .i64 x.f1, .int .i64 x.f2] 39)) := by
   refine ⟨(hb0 0).trans rfl, (hb0 1).trans rfl, (hb0 2).trans rfl, ?_, by simp [World.frozen?, hI2.row], hT2⟩
   have h := blk_cell hI2.row (x.f0.toNat * 2)
   rw [h]
   simpa using accCells_get' w0.heap.size L _ q hq
  have hnext : ∀ W2, Below (W.alloc (Obj.cells #[.int .i64 x.f0, .int .i64 x.f1, .int .i64 x.f2] 39)).heap.size (W.alloc (Obj.cells #[.int .i64 x.f0, .int .i64 x.f1, .int .i64 x.f2] 39)) W2 → ∀ pr, pr = priceOf p b l c x → ∀ t0 t2 t4 t5 t6 t8 qS jS qJ jR qA qH qQ qU qV qW jP qD qT qE jZ qF qO jQ jV qK qR qG qL jT qB jW qI qM qC jX qP jY jN jU jB jG jE jH jL jI jM jF jK jA jC jJ jD qN jO,
    To Try.prog cs X ((baseN 117).at ({ tmps := #[t0, ptr w0.heap.size, t2, .slice (some ⟨w0.heap.size + 1, 0, none⟩) ns ns, t4, t5, t6, ptr gT, t8, ptr W.heap.size, qS, jS, qJ, jR, qA, qH, qQ, qU, qV, qW, jP, qD, qT, qE, jZ, qF, qO, jQ, jV, qK, qR, qG, qL, jT, qB, jW, qI, qM, qC, jX, qP, .slice (some ad) na ca, .int .i64 na, .int .i64 i, jY, jN, jU, jB, jG, jE, jH, jL, jI, jM, jF, jK, jA, jC, jJ, jD, qN, jO], defers := [] } : Act) (.inBlock 3 :: .code (.region 15 c117_15 false) :: .inLoop l117_1 :: .inBlock 2 :: K)) (W2.setCell ⟨w0.heap.size + 1, x.f0.toNat * 2, none⟩ (.int .i64 (wrap64 (q.1 + pr)))) := by
   intro W2 hB2 pr hpr t0 t2 t4 t5 t6 t8 qS jS qJ jR qA qH qQ qU qV qW jP qD qT qE jZ qF qO jQ jV qK qR qG qL jT qB jW qI qM qC jX qP jY jN jU jB jG jE jH jL jI jM jF jK jA jC jJ jD qN jO
   have hI3 := (hI2.below hB2).set (x.f0.toNat * 2) (.int .i64 (wrap64 (q.1 + pr)))
   rw [accCells_set _ _ _ _ _ hq, hpr, ← htake] at hI3
   have hT3 : (W2.setCell ⟨w0.heap.size + 1, x.f0.toNat * 2, none⟩ (.int .i64 (wrap64 (q.1 + pr)))).heap[gT]? = some (.cells #[.int .i64 p, .int .i64 b, .int .i64 l, .int .i64 c] 158 (0, 0)) := by
    rw [Below.heap_setCell _ _ _ _ (by show gT ≠ w0.heap.size + 1; omega), hB2.block gT (lt_of_some hT2)]
    exact hT2
   rw [← hpr] at hI3
   replace hI3 : Hid _ := hI3
   replace hT3 : Hid _ := hT3
   refine To.inBlock (To.code fun Kc hKc => ?_)
   clear hR hT2 hb0 hI2 HI HT hpr hB2
   unfold c117_15
   go_wp2
   rw [show ((i : Int) + 1) = ((i + 1 : Nat) : Int) by omega]
   exact hKc _ _ (To.inLoop (ih.out (i + 1) (by omega) _ _ _ _ _ _ _ _ _ _ _ _ _ _ _ _ _ _ _ _ _ _ _ _ _ _ _ _ _ _ _ _ _ _ _ _ _ _ _ _ _ _ _ _ _ _ _ _ _ _ _ _ _ _ _ _ _ hI3.out hT3.out))
  dsimp only at hnext ⊢
  have hw := HW.out
  obtain ⟨x0, x1, x2⟩ := x
  by_cases h1 : x1 = 1
  ·subst h1
   exact reg117_1 _ _ _ ns x0 x2 q.1 hw.1 hw.2 _ _ _ _ _ _ _ _ _ _ _ _ _ _ _ _ _ _ _ _ _ _ _ _ _ _ _ _ _ _ _ _ _ _ _ _ _ _ _ _ _ _ _ _ _ _ _ _ _ _ _ _ _ _ _ _ _ _ _ _ hR fun jB jG jE jH jL jI jM jF jK jA jC jJ jD W2 hB2 => hnext W2 hB2 p (by simp [priceOf]) _ _ _ _ _ _ _ _ _ _ _ _ _ _ _ _ _ _ _ _ _ _ _ _ _ _ _ _ _ _ _ _ _ _ _ _ _ _ _ _ _ _ _ _ _ _ _ _ _ _ _ _ _ _ _
  ·by_cases h2 : x1 = 2
   ·subst h2
    exact reg117_2 _ _ _ ns x0 x2 q.1 hw.1 hw.2 _ _ _ _ _ _ _ _ _ _ _ _ _ _ _ _ _ _ _ _ _ _ _ _ _ _ _ _ _ _ _ _ _ _ _ _ _ _ _ _ _ _ _ _ _ _ _ _ _ _ _ _ _ _ _ _ _ _ _ _ hR fun jB jG jE jH jL jI jM jF jK jA jC jJ jD W2 hB2 => hnext W2 hB2 _ (by simp [priceOf]) _ _ _ _ _ _ _ _ _ _ _ _ _ _ _ _ _ _ _ _ _ _ _ _ _ _ _ _ _ _ _ _ _ _ _ _ _ _ _ _ _ _ _ _ _ _ _ _ _ _ _ _ _ _ _
   ·exact reg117_3 _ _ _ ns x0 x1 x2 q.1 hw.1 hw.2 h1 h2 _ _ _ _ _ _ _ _ _ _ _ _ _ _ _ _ _ _ _ _ _ _ _ _ _ _ _ _ _ _ _ _ _ _ _ _ _ _ _ _ _ _ _ _ _ _ _ _ _ _ _ _ _ _ _ _ _ _ _ _ hR fun jB jG jE jH jL jI jM jF jK jA jC jJ jD W2 hB2 => hnext W2 hB2 _ (by simp [priceOf, h1, h2]) _ _ _ _ _ _ _ _ _ _ _ _ _ _ _ _ _ _ _ _ _ _ _ _ _ _ _ _ _ _ _ _ _ _ _ _ _ _ _ _ _ _ _ _ _ _ _ _ _ _ _ _ _ _ _
theorem info135 : (Try.prog.info? 135).map (fun i => (i.zero, i.size, i.bytes)) = some (some (.agg #[.int .i64 0, .nilFunc]), 2, 16) := by kernel_rfl
theorem mk153 (n : Nat) (hn : n ≤ 1000) (W : World) : (Instr.makeSlice 153 (.int .i64 (n : Int)) (.int .i64 (n : Int))).run Try.prog W = .ok (.slice (some ⟨W.heap.size, 0, none⟩) n n) (W.alloc (.cells (madeCells #[.int .i64 0, .nilFunc] (n * 2)) 135)) := by
 obtain ⟨i, hi, hz⟩ := Option.map_eq_some_iff.1 info135
 simp only [Prod.mk.injEq] at hz
 obtain ⟨hz0, hz1, hz2⟩ := hz
 have h := run_make (P := Try.prog) W 153 135 i (.agg #[.int .i64 0, .nilFunc]) Try.underlying153 hi hz0 .i64 .i64 n n (by omega) (by omega) (by rw [hz2]; omega) (by omega)
 rw [hz1] at h
 simp only [Int.toNat_natCast] at h
 exact h
theorem cellsOf_len : ∀ l : List (Int × Value), (cellsOf l).length = l.length * 2
 | [] => rfl
 | q :: l => by
  show (cellsOf l).length + 1 + 1 = _
  rw [cellsOf_len l, List.length_cons]; omega
theorem part1_zero (ch streets : List Int) (off : Int) (bs : Nat) : madeCells #[.int .i64 0, .nilFunc] (streets.length * 2) = (cellsOf (part1 ch streets off bs 0)).toArray := by
 apply Array.ext_getElem?
 intro i
 rcases Nat.lt_or_ge i (streets.length * 2) with h | h
 ·obtain ⟨k, hik⟩ : ∃ k, i = k * 2 ∨ i = k * 2 + 1 := ⟨i / 2, by omega⟩
  have hk : k < streets.length := by omega
  obtain ⟨st, hst⟩ : ∃ st, streets[k]? = some st := ⟨_, List.getElem?_eq_getElem hk⟩
  have hg := part1_get ch streets off bs 0 k st hst
  rw [if_neg (Nat.not_lt_zero _)] at hg
  have h2 := cellsOf_get _ _ _ hg
  rcases hik with rfl | rfl
  ·have e : (cellsOf (part1 ch streets off bs 0)).toArray[k * 2]? = some (.int .i64 0) := by rw [List.getElem?_toArray]; exact h2.1
   rw [e]
   simp [madeCells, h]
  ·have e : (cellsOf (part1 ch streets off bs 0)).toArray[k * 2 + 1]? = some .nilFunc := by rw [List.getElem?_toArray]; exact h2.2
   rw [e]
   have hm : (k * 2 + 1) % 2 = 1 := by omega
   simp [madeCells, h, hm]
 ·rw [Array.getElem?_eq_none (by rw [size_madeCells]; exact h), Array.getElem?_eq_none (by simp [cellsOf_len, part1_len]; omega)]
theorem Sold.below {W : World} (h : Sold w0 As ns Aa na streets adv) (hb : Below w0.heap.size w0 W) : Sold W As ns Aa na streets adv := ⟨Kd.C_below h.st hb, Kd.C_below h.ad hb, h.lens, h.lena, h.maxs, h.maxa, h.who⟩
theorem calls117 (hS : Sold w0 As ns Aa na streets adv) :
  Calls Try.prog 117 #[.agg (sal p b l c off grp As ns cs0 Aa na ca)] w0 fun e w' => ∃ v, e = .returned v ∧ AccRes (sal p b l c off grp As ns cs0 Aa na ca) ns (accountsOf p b l c off grp streets adv) w0 v w' := by
 refine calls_of_to (tmps := #[.agg (sal p b l c off grp As ns cs0 Aa na ca), undef, undef, undef, undef, undef, undef, undef, undef, undef, undef, undef, undef, undef, undef, undef, undef, undef, undef, undef, undef, undef, undef, undef, undef, undef, undef, undef, undef, undef, undef, undef, undef, undef, undef, undef, undef, undef, undef, undef, undef, undef, undef, undef, undef, undef, undef, undef, undef, undef, undef, undef, undef, undef, undef, undef, undef, undef, undef, undef, undef, undef]) Try.func117 body117 (by kernel_rfl) fun cs => ?_
 have hmk := mk153 ns (by have := hS.maxs; omega)
 unfold b117
 dsimp only
 refine To.seq (To.code fun Kc hKc => ?_)
 unfold c117_0
 go_wp2
 refine hKc _ _ (To.seq (To.code fun Kc hKc => ?_))
 unfold c117_1
 go_wp2
 have hz := part1_zero (cheap streets adv grp 10) streets off w0.heap.size
 rw [hS.lens] at hz
 have hI : In117 w0 (sal p b l c off grp As ns cs0 Aa na ca) (cellsOf (part1 (cheap streets adv grp 10) streets off w0.heap.size 0)) ((w0.alloc (.cells (sal p b l c off grp As ns cs0 Aa na ca) 36)).alloc (.cells (madeCells #[.int .i64 0, .nilFunc] (ns * 2)) 135)) := by
  refine ⟨(Below.refl _ _).alloc (by simp) _, by simp, ?_⟩
  have h := heap_alloc_new (w0.alloc (.cells (sal p b l c off grp As ns cs0 Aa na ca) 36)) (.cells (madeCells #[.int .i64 0, .nilFunc] (ns * 2)) 135)
  rw [← hz]
  simpa using h
 refine hKc _ _ (To.seq (To.code fun Kc hKc => ?_))
 have hsz : ((w0.alloc (.cells (sal p b l c off grp As ns cs0 Aa na ca) 36)).alloc (.cells (madeCells #[.int .i64 0, .nilFunc] (ns * 2)) 135)).heap.size = w0.heap.size + 2 := by simp
 clear hmk hz
 generalize (w0.alloc (.cells (sal p b l c off grp As ns cs0 Aa na ca) 36)).alloc (.cells (madeCells #[.int .i64 0, .nilFunc] (ns * 2)) 135) = W at hI hsz ⊢
 have hbox : ∀ W : World, Below (w0.heap.size + 1) (w0.alloc (.cells (sal p b l c off grp As ns cs0 Aa na ca) 36)) W → ∀ j, W.cell? ⟨w0.heap.size, j, none⟩ = (sal p b l c off grp As ns cs0 Aa na ca)[j]? := fun W h j => (h.cell (Nat.lt_succ_self _)).trans (cell_box _ _ _ j)
 have b0 : W.cell? ⟨w0.heap.size, 0, none⟩ = some (.int .i64 p) := hbox W hI.old 0
 have b1 : W.cell? ⟨w0.heap.size, 1, none⟩ = some (.int .i64 b) := hbox W hI.old 1
 have b2 : W.cell? ⟨w0.heap.size, 2, none⟩ = some (.int .i64 l) := hbox W hI.old 2
 have b3 : W.cell? ⟨w0.heap.size, 3, none⟩ = some (.int .i64 c) := hbox W hI.old 3
 have b4 : W.cell? ⟨w0.heap.size, 4, none⟩ = some (.int .i64 off) := hbox W hI.old 4
 have b5 : W.cell? ⟨w0.heap.size, 5, none⟩ = some (.int .i64 grp) := hbox W hI.old 5
 have b6 : W.cell? ⟨w0.heap.size, 6, none⟩ = some (.slice As ns cs0) := hbox W hI.old 6
 have b7 : W.cell? ⟨w0.heap.size, 7, none⟩ = some (.slice Aa na ca) := hbox W hI.old 7
 have hSW := hS.below (((Below.refl w0.heap.size w0).alloc (Nat.le_refl _) (.cells (sal p b l c off grp As ns cs0 Aa na ca) 36)).trans (hI.old.mono (Nat.le_succ _)))
 have c93 : Hid (∀ w', w' = W → Calls Try.prog 93 #[.agg (sal p b l c off grp As ns cs0 Aa na ca)] w' fun e w'' => ∃ v, e = .returned v ∧ w''.ownsRow W.heap.size 3 1 v (cheap streets adv grp 10).length (nums .i64 (cheap streets adv grp 10)) ∧ Below W.heap.size W w'') := fun w' e => by subst e; exact calls93 hSW
 replace hbox : Hid _ := hbox
 replace hI : Hid _ := hI
 replace hS : Hid _ := hS
 clear hSW
 unfold c117_2
 go_wp2_with (go_at_call 93; refine Calls.mono (c93.out _ rfl) ?_; rintro e w' ⟨V, rfl, hV, hb⟩; dsimp only)
 have hI2 := hI.out.below hb
 rw [hsz] at hV
 clear b0 b1 b2 b3 b4 b5 b6 b7 c93 hI hb hsz
 clear W
 have b6 : w'.cell? ⟨w0.heap.size, 6, none⟩ = some (.slice As ns cs0) := hbox.out w' hI2.old 6
 replace hI2 : Hid _ := hI2
 replace hV : Hid _ := hV
 refine hKc _ _ (To.seq (To.seq (To.code fun Kc hKc => ?_)))
 unfold c117_3
 go_wp2
 refine hKc _ _ (To.block (To.loop ?_))
 clear b6 hKc
 refine fill117 hS.out V (cheap streets adv grp 10) (cheap_len _ _ _ 10) (fun t0 t2 t5 t6 t7 t8 t9 qS jS qJ jR qA qH qQ qU qV qW jP qD qT qE jZ qF qO jQ jV qK qR qG qL jT qB jW qI qM qC jX qP qZ qY qX jY jN jU jB jG jE jH jL jI jM jF jK jA jC jJ jD qN jO W hI => ?_) ns 0 (Nat.zero_add _) _ _ _ _ _ _ _ _ _ _ _ _ _ _ _ _ _ _ _ _ _ _ _ _ _ _ _ _ _ _ _ _ _ _ _ _ _ _ _ _ _ _ _ _ _ _ _ _ _ _ _ _ _ _ _ _ w' hI2.out hV.out
 clear hI2 hV
 clear w'
 have hend := part1_end (cheap streets adv grp 10) streets off w0.heap.size
 rw [hS.out.lens] at hend
 rw [hend, ← accCells_is] at hI
 clear hend
 have b0 : W.cell? ⟨w0.heap.size, 0, none⟩ = some (.int .i64 p) := hbox.out W hI.old 0
 have b1 : W.cell? ⟨w0.heap.size, 1, none⟩ = some (.int .i64 b) := hbox.out W hI.old 1
 have b2 : W.cell? ⟨w0.heap.size, 2, none⟩ = some (.int .i64 l) := hbox.out W hI.old 2
 have b3 : W.cell? ⟨w0.heap.size, 3, none⟩ = some (.int .i64 c) := hbox.out W hI.old 3
 have b4 : W.cell? ⟨w0.heap.size, 4, none⟩ = some (.int .i64 off) := hbox.out W hI.old 4
 have b5 : W.cell? ⟨w0.heap.size, 5, none⟩ = some (.int .i64 grp) := hbox.out W hI.old 5
 replace hI : Hid _ := hI
 dsimp only
 refine To.seq (To.code fun Kc hKc => ?_)
 unfold c117_10
 go_wp2_with (go_at_call 104; refine Calls.mono calls104 ?_; rintro e w' ⟨v, rfl, gT, rfl, hgT, hT, hb⟩; dsimp only)
 have hI2 := hI.out.below hb
 have hgT2 : w0.heap.size + 2 ≤ gT := Nat.le_trans hI.out.two hgT
 clear b0 b1 b2 b3 b4 b5 hI hb hgT
 clear W
 have b7 : w'.cell? ⟨w0.heap.size, 7, none⟩ = some (.slice Aa na ca) := hbox.out w' hI2.old 7
 replace hI2 : Hid _ := hI2
 replace hT : Hid (w'.heap[gT]? = some (.cells #[.int .i64 p, .int .i64 b, .int .i64 l, .int .i64 c] 158 (0, 0))) := hT
 refine hKc _ _ (To.seq (To.seq (To.code fun Kc hKc => ?_)))
 unfold c117_11
 go_wp2
 refine hKc _ _ (To.block (To.loop ?_))
 clear b7 hKc
 refine sum117 hS.out gT hgT2 (begun (cheap streets adv grp 10) streets off) (by rw [begun, List.length_map]; exact hS.out.lens) (fun t0 t2 t4 t5 t6 t7 t8 t9 qS jS qJ jR qA qH qQ qU qV qW jP qD qT qE jZ qF qO jQ jV qK qR qG qL jT qB jW qI qM qC jX qP qZ qY qX jY jN jU jB jG jE jH jL jI jM jF jK jA jC jJ jD qN jO W hI => ?_) na 0 (Nat.zero_add _) _ _ _ _ _ _ _ _ _ _ _ _ _ _ _ _ _ _ _ _ _ _ _ _ _ _ _ _ _ _ _ _ _ _ _ _ _ _ _ _ _ _ _ _ _ _ _ _ _ _ _ _ _ _ _ _ w' hI2.out hT.out
 clear hI2 hT hgT2
 clear w'
 replace hI : Hid _ := hI
 dsimp only
 refine To.seq (To.code fun Kc hKc => ?_)
 unfold c117_16
 go_wp2
 refine hKc _ _ (To.ret Try.func117 rfl (results_tmp rfl _ _ _) ?_)
 exact ⟨w0.heap.size + 1, w0.heap.size, rfl, Nat.le_succ _, Nat.le_refl _, hI.out.row, (hI.out.old.block _ (Nat.lt_succ_self _)).trans (heap_alloc_new w0 _), ((Below.refl w0.heap.size w0).alloc (Nat.le_refl _) _).trans (hI.out.old.mono (Nat.le_succ _))⟩
end
end Go.Ov
namespace Go.Ov
open Go.Conc
section
variable {P : Program} {b : Frame} {cs : List Frame} {X : Frame → World → Prop} {k : List Item} {a : Act} {w : World} {ops : Array Oper}
theorem To.region {i : Nat} {l : List Nat} (hl : List.range ops.size = l) (h : To P cs X (b.at a (.inRegion ops l :: k)) w) : To P cs X (b.at a (.code (.region i ops false) :: k)) w := by
 subst hl
 exact h.go stepG_region
theorem To.regionEnd (h : To P cs X (b.at a k) w) : To P cs X (b.at a (.inRegion ops [] :: k)) w := h.go stepG_region_end
theorem To.op {i : Nat} {rest : List Nat} {o : Oper} (ho : ops[i]? = some o) (hg : o.guard = none) (h : ∀ K : Act → World → Prop, (∀ a w, To P cs X (b.at a (.inRegion ops rest :: k)) w → K a w) → o.wp P a w K (Ends2 K fun _ _ => False)) : To P cs X (b.at a (.inRegion ops (i :: rest) :: k)) w := by
 have h1 : wpOps P ops (Ends2 (fun a w => To P cs X (b.at a (.inRegion ops rest :: k)) w) fun _ _ => False) [i] a w := wpOps_step ho hg fun K hK => by
  have := h (fun a w => To P cs X (b.at a (.inRegion ops rest :: k)) w) fun _ _ h => h
  refine Oper.wp_mono (fun a w h => hK a w (by simpa [wpOps] using h)) ?_
  exact this
 obtain ⟨a', w', ⟨fr2, w2, hx, hs2⟩, hs⟩ := wp_ops_till rest [i] a w h1 b k cs
 exact ⟨fr2, w2, hx, Steps.trans hs hs2⟩
end
section
variable {R : Row} {fr : Frame} {cs : List Frame} {w0 : World} {X : Frame → World → Prop} {b : Frame} {a : Act} {k : List Item} {ops : Array Oper}
theorem Row.to (ok : OkFrame R.P fr) (hk : fr.kind = .normal) (hp : PlainW w0) (h : ∀ τ d, To R.P [sen R.P] X fr (w0.on τ d)) (hX : ∀ fr' w1, X fr' w1 → OkFrame R.P fr' → fr'.kind = .normal → PlainW w1 → R.Runs fr' cs w1) : R.Runs fr cs w0 :=
 Till.runs (X := X) ok hk hp (fun τ d => by
  obtain ⟨fr', w', hx, n, hs⟩ := h τ d
  exact ⟨n, fr', w', hs, hx⟩) hX
def At (b : Frame) (k : List Item) (N : Act → World → Prop) (fr : Frame) (w : World) : Prop := ∃ a, fr = b.at a k ∧ N a w
theorem okFrame_of_at {P : Program} (ok : OkFrame P (b.at a k)) : AOk a ∧ (∀ x ∈ k, OkItem P x) := ⟨ok.defers, ok.todo⟩
theorem Row.callOp {i : Nat} {rest : List Nat} {o : Oper} {f : FuncId} {args : Array Value} {K : Value → World → Prop} (ok : OkFrame R.P (b.at a (.inRegion ops (i :: rest) :: k))) (hb : b.kind = .normal) (hp : PlainW w0) (ho : ops[i]? = some o) (hg : o.guard = none)
  (hr : ∀ w, (execOp a.eval o).run R.P w = .ok (.enter f args) w) (h : R.Calls f args w0 K) (hK : ∀ v w1, K v w1 → PlainW w1 → OkFrame R.P (b.at (a.put o.dst v) (.inRegion ops rest :: k)) → R.Runs (b.at (a.put o.dst v) (.inRegion ops rest :: k)) cs w1) : R.Runs (b.at a (.inRegion ops (i :: rest) :: k)) cs w0 := by
 obtain ⟨ha, hx⟩ := okFrame_of_at ok
 have hreg : (ops.all fun o => okOp R.P o.op) = true := hx _ (.head _)
 have hk : ∀ x ∈ k, OkItem R.P x := fun x h => hx x (.tail _ h)
 have hw : Region.wanted o (yielded ops a.tmps) = true := by simp [Region.wanted, hg]
 refine Row.Runs.go (new := []) ok (by simp) hb hp (.inr rfl) fun τ d =>
  ⟨Frame.enter R.P f args .normal, [b.at a (.inRegion ops (i :: rest) :: k)], w0.on τ d, seen R.P b.fn ((execOp a.eval o).events R.P (w0.on τ d) #[]), fun cs => ?_, fun _ _ _ => frame_on ?_⟩
 ·have hg := stepG_op (P := R.P) (b := b) (k := k) (cs := cs) (w := w0.on τ d) (rest := rest) ho hw
  refine (hg : stepG R.P true (G (b.at a (.inRegion ops (i :: rest) :: k)) cs) (w0.on τ d) = _).trans ?_
  have hkk : (b.kind == CallKind.early) = false := by rw [hb]; rfl
  simp [stepG.apply, Sem.runT_eq, hr, Frame.at, GStep.after, G, hkk]
 ·refine h hp _ fun fr v w1 hfn hl okf hp1 hI => ?_
  have hfin : (b.at a (.inRegion ops (i :: rest) :: k)).finish v = b.at (a.put o.dst v) (.inRegion ops rest :: k) := by rw [Frame.finish_at, ho]; rfl
  refine Row.leave hl okf ok hb hp1 ?_
  rw [hfin]
  refine hK v w1 hI hp1 (okFrame_at hb (aok_put ha _ _) fun x hx' => ?_)
  rcases List.mem_cons.1 hx' with rfl | hx'
  ·exact hreg
  ·exact hk x hx'
theorem run_call {P : Program} {w : World} {o : Oper} {xs : Array Operand} {ats : Array TypeId} {f : FuncId} {fn : Func} {args : Array Value} (hop : o.op = .call { callee := .value (.func f), args := xs, argTypes := ats }) (hf : P.funcs[f]? = some fn) (hname : (fn.name == "runtime.NumGoroutine") = false) (hb : fn.body.isNone = false)
  (ha : xs.map a.eval = args) : (execOp a.eval o).run P w = .ok (.enter f args) w := by
 have h := run_call_value (P := P) (w := w) (a := a) (cap := #[]) hop rfl hf hname hb
 rw [Array.append_empty, ha] at h
 exact h
theorem Row.calls_from {f : FuncId} {fn : Func} {c : Code} {args tmps : Array Value} {K : Value → World → Prop} (hf : R.P.funcs[f]? = some fn) (hb : fn.body = some c) (ht : args ++ Array.replicate (fn.ntmps - args.size) undef = tmps)
  (h : PlainW w0 → OkFrame R.P ((baseN f).at { tmps := tmps, defers := [] } [.code c]) → ∀ cs, (∀ fr w1, Out R.P f K fr w1 → OkFrame R.P fr → PlainW w1 → R.Runs fr cs w1) → R.Runs ((baseN f).at { tmps := tmps, defers := [] } [.code c]) cs w0) : R.Calls f args w0 K := by
 intro hp cs hK
 have henter : Frame.enter R.P f args .normal = (baseN f).at { tmps := tmps, defers := [] } [.code c] := by
  simp [Frame.enter, Frame.at, hf, hb, baseN, ← ht]
 have ok : OkFrame R.P ((baseN f).at { tmps := tmps, defers := [] } [.code c]) := henter ▸ enter_okf f args
 rw [henter]
 exact h hp ok cs fun fr w1 ⟨h1, v, h2, h3⟩ okf hp1 => hK fr v w1 h1 h2 okf hp1 h3
end
end Go.Ov
namespace Go.Ov
open Go.Conc Go.Proofs Go.RowKit
theorem outsOf_all (l : List (Int × Option Int)) (num : Int → Option Int → Int) (got : List Nat) (hg : ∀ j, j < l.length → j ∈ got) :
  outsOf (fun j => num (l.getD j (0, none)).1 (l.getD j (0, none)).2) l.length got = (l.map fun p => Value.int .i64 (num p.1 p.2)).toArray := by
 apply Array.ext_getElem?
 intro i
 rcases Nat.lt_or_ge i l.length with h | h
 ·simp [outsOf, List.getElem?_range h, hg i h, h]
 ·simp [outsOf, h]
set_option maxHeartbeats 2000000 in
theorem reckon101 {R : Row} (hP : R.P = Try.prog) {w0 : World} (v0 v1 v2 v3 v5 v7 : Value) (off : Int) (adr : Option Addr) (c : Nat) (l : List (Int × Option Int)) (hoff : ∀ p ∈ l, ∀ o, p.2 = some o → o = off) (hn : l.length ≤ 400)
  (hacc : ∀ τ d W, Below w0.heap.size (w0.on τ d) W → Calls Try.prog 117 #[.agg #[v0, v1, v2, v3, .int .i64 off, v5, .slice adr l.length c, v7]] W fun e w' => ∃ v, e = .returned v ∧ AccRes #[v0, v1, v2, v3, .int .i64 off, v5, .slice adr l.length c, v7] l.length l W v w')
  {f : FuncId} {fn : Func} {cap : Array Value} (hf : Try.prog.funcs[f]? = some fn) (hname : (fn.name == "runtime.NumGoroutine") = false) (hbo : fn.body.isNone = false) {num : Int → Option Int → Int} (hnum : Num f cap num) :
  R.Calls 101 #[.agg #[v0, v1, v2, v3, .int .i64 off, v5, .slice adr l.length c, v7], .func (.func f) #[] cap] w0 fun v w1 => ∃ g, v = .slice (some ⟨g, 0, none⟩) l.length l.length ∧ w0.heap.size ≤ g ∧ w1.heap[g]? = some (.cells (l.map fun p => Value.int .i64 (num p.1 p.2)).toArray 3 (0, 0)) ∧ Fr w0 w1 := by
 refine Row.calls_of_runs (fn := Try.f101) (c := b101) (by rw [hP]; kernel_rfl) body101 fun hp cs hK => ?_
 have hokb : okCode R.P b101 = true := by rw [hP]; kernel_rfl
 have e0 : (#[Value.agg #[v0, v1, v2, v3, .int .i64 off, v5, .slice adr l.length c, v7], Value.func (.func f) #[] cap] ++ Array.replicate (Try.f101.ntmps - (#[Value.agg #[v0, v1, v2, v3, .int .i64 off, v5, .slice adr l.length c, v7], Value.func (.func f) #[] cap]).size) undef) = #[Value.agg #[v0, v1, v2, v3, .int .i64 off, v5, .slice adr l.length c, v7], .func (.func f) #[] cap] ++ Array.replicate 39 undef := rfl
 rw [e0]
 unfold b101 at hokb ⊢
 have hok1 : ∀ x ∈ ([.code (.seq (.region 0 c101_0 false) (.seq (.region 1 c101_1 false) (.seq (.region 2 c101_2 false) (.seq (.region 3 c101_3 false) (.seq (.seq (.region 4 c101_4 false) (.block 0 (.loop l101_0))) (.seq (.region 9 c101_9 false) (.seq (.seq (.region 10 c101_10 false) (.block 2 (.loop l101_1))) (.seq (.region 14 c101_14 false) Code.ret))))))))] : List Item), OkItem R.P x := by
  intro x hx
  obtain rfl := List.mem_singleton.1 hx
  exact hokb
 refine Row.reach (k' := [.code (.block 0 (.loop l101_0)), .code (.seq (.region 9 c101_9 false) (.seq (.seq (.region 10 c101_10 false) (.block 2 (.loop l101_1))) (.seq (.region 14 c101_14 false) Code.ret)))]) rfl hok1 hp (by simp [AOk]) (fun τ d => ?_) (N := fun a' w1 => ∃ gA bs t8 t9 jH jK jV jI jP jT jZ jJ jO jD jC jE jG jA jB jF qA jS jW jL jQ jM jU jX jR jN jY, a' = tmM (.agg #[v0, v1, v2, v3, .int .i64 off, v5, .slice adr l.length c, v7]) (.func (.func f) #[] cap) w0.heap.size (w0.heap.size + 1) (w0.heap.size + 3) (w0.heap.size + 5) (w0.heap.size + 7) (.slice (some ⟨gA, 0, none⟩) l.length l.length) l.length 0
     t8 t9 jH jK jV jI jP jT jZ jJ jO jD jC jE jG jA jB jF qA jS jW jL jQ jM jU jX jR jN jY ∧ Begun l.length #[v0, v1, v2, v3, .int .i64 off, v5, .slice adr l.length c, v7] (.func (.func f) #[] cap) l w0 gA bs w1) ?_
 ·rw [hP]
  have h1 := try101 (b := baseN 101) (cs := [sen Try.prog]) (k := []) (w := w0.on τ d) v0 v1 v2 v3 (.int .i64 off) v5 v7 adr l.length c f cap hn l fun W hW => hacc τ d W hW
  exact h1.mono fun a w ⟨gA, bs, t8, t9, jH, jK, jV, jI, jP, jT, jZ, jJ, jO, jD, jC, jE, jG, jA, jB, jF, qA, jS, jW, jL, jQ, jM, jU, jX, jR, jN, jY, e, h⟩ => ⟨gA, bs, t8, t9, jH, jK, jV, jI, jP, jT, jZ, jJ, jO, jD, jC, jE, jG, jA, jB, jF, qA, jS, jW, jL, jQ, jM, jU, jX, jR, jN, jY, e, h.os, h.output, h.size, h.same, h.bn, h.gO, h.bO, h.F, h.bF, h.L, h.bL, h.row, h.box, h.gA8, h.bs8⟩
 ·rintro a1 w1 ⟨gA, bs, t8, t9, jH, jK, jV, jI, jP, jT, jZ, jJ, jO, jD, jC, jE, jG, jA, jB, jF, qA, jS, jW, jL, jQ, jM, jU, jX, jR, jN, jY, rfl, hB⟩ hp1 ha1 hk1
  let ys : Nat → Int := fun j => num (l.getD j (0, none)).1 (l.getD j (0, none)).2
  let S : Mem := [(w0.heap.size + 5, .cells #[.chan (some (w0.heap.size + 4))] 151 (0, 0), false), (w0.heap.size + 7, .cells #[.chan (some (w0.heap.size + 6))] 152 (0, 0), false), (w0.heap.size + 1, .cells #[.func (.func f) #[] cap] 137 (0, 0), false),
   (w0.heap.size + 3, .cells #[.slice (some ⟨w0.heap.size + 2, 0, none⟩) l.length l.length] 22 (0, 0), false), (gA, .cells (accCells bs l).toArray 135 (0, 0), false), (bs, .cells #[v0, v1, v2, v3, .int .i64 off, v5, .slice adr l.length c, v7] 36 (0, 0), false)]
  have hg8 := hB.gA8
  have hb8 := hB.bs8
  let x : PhT := ⟨Try.prog, l.length, w0.heap.size + 4, w0.heap.size + 6, fun j => .agg #[.int .i64 j, .int .i64 (ys j)], .agg #[.int .i64 0, .int .i64 0], .bool false,
   Exit101 (.agg #[v0, v1, v2, v3, .int .i64 off, v5, .slice adr l.length c, v7]) (.func (.func f) #[] cap) w0.heap.size (w0.heap.size + 1) (w0.heap.size + 3) (w0.heap.size + 5) (w0.heap.size + 7) gA l.length (w0.heap.size + 2) ys S [.code (.seq (.region 14 c101_14 false) Code.ret)] cs, by omega⟩
  have hSmc : MC S := by
   intro b o r hb
   simp only [S, List.mem_cons, List.not_mem_nil, or_false, Prod.mk.injEq] at hb
   rcases hb with ⟨_, rfl, _⟩ | ⟨_, rfl, _⟩ | ⟨_, rfl, _⟩ | ⟨_, rfl, _⟩ | ⟨_, rfl, _⟩ | ⟨_, rfl, _⟩ <;> exact ⟨_, _, _, rfl⟩
  have hSro : ∀ b o r, (b, o, r) ∈ S → r = false := by
   intro b o r hb
   simp only [S, List.mem_cons, List.not_mem_nil, or_false, Prod.mk.injEq] at hb
   rcases hb with ⟨_, _, rfl⟩ | ⟨_, _, rfl⟩ | ⟨_, _, rfl⟩ | ⟨_, _, rfl⟩ | ⟨_, _, rfl⟩ | ⟨_, _, rfl⟩ <;> rfl
  have hSn : ¬ In S (w0.heap.size + 2) := by
   rintro ⟨r, o, hb⟩
   simp only [S, List.mem_cons, List.not_mem_nil, or_false, Prod.mk.injEq] at hb
   rcases hb with ⟨h, _⟩ | ⟨h, _⟩ | ⟨h, _⟩ | ⟨h, _⟩ | ⟨h, _⟩ | ⟨h, _⟩ <;> omega
  have hSh : ∀ b o r, (b, o, r) ∈ S → w1.heap[b]? = some o := by
   intro b o r hb
   simp only [S, List.mem_cons, List.not_mem_nil, or_false, Prod.mk.injEq] at hb
   rcases hb with ⟨rfl, rfl, _⟩ | ⟨rfl, rfl, _⟩ | ⟨rfl, rfl, _⟩ | ⟨rfl, rfl, _⟩ | ⟨rfl, rfl, _⟩ | ⟨rfl, rfl, _⟩
   ·exact hB.bF
   ·exact hB.bL
   ·exact hB.bn
   ·exact hB.bO
   ·exact hB.row
   ·exact hB.box
  have hM0 : Holds (S ++ [(w0.heap.size + 2, .cells (outsOf ys l.length []) 3 (0, 0), true)]) w1 := by
   intro b o r hb
   simp only [List.mem_append, List.mem_singleton, Prod.mk.injEq] at hb
   rcases hb with hb | ⟨rfl, rfl, _⟩
   ·exact hSh b o r hb
   ·rw [outsOf_nil]; exact hB.gO
  have hMc := mc_own hSmc (gO := w0.heap.size + 2) (outs := outsOf ys l.length []) (e := 3) (z := (0, 0)) (r := true)
  refine Row.phase x hP.symm (S ++ [(w0.heap.size + 2, Obj.cells (outsOf ys l.length []) 3 (0, 0), true)]) hp1 hB.F hB.L hM0 (by exact hMc) (fun N0 h => ?_) fun M g hE => ?_
  ·have hS : Sh (x.ph N0 h) (.func (.func f) #[] cap) l (w0.heap.size + 1) (w0.heap.size + 3) (w0.heap.size + 5) (w0.heap.size + 7) gA bs (w0.heap.size + 2) S := by
    refine ⟨hSmc, hSro, ⟨(0, 0), ?_⟩, ⟨(0, 0), ?_⟩, ⟨(0, 0), ?_⟩, ⟨(0, 0), ?_⟩, ⟨(0, 0), ?_⟩, fun p hpm => ?_, rfl, hSn⟩
    ·exact .head _
    ·exact .tail _ (.head _)
    ·exact .tail _ (.tail _ (.head _))
    ·exact .tail _ (.tail _ (.tail _ (.head _)))
    ·exact .tail _ (.tail _ (.tail _ (.tail _ (.head _))))
    ·obtain ⟨q, o⟩ := p
     cases o with
     | none => rfl
     | some o =>
      obtain rfl := hoff _ hpm o rfl
      exact ⟨bs, _, (0, 0), false, rfl, .tail _ (.tail _ (.tail _ (.tail _ (.tail _ (.head _))))), rfl⟩
   have hval : ∀ j p, l[j]? = some p → (x.ph N0 h).val j = .agg #[.int .i64 j, .int .i64 (num p.1 p.2)] := fun j p hj => by
    show Value.agg #[.int .i64 j, .int .i64 (num (l.getD j (0, none)).1 (l.getD j (0, none)).2)] = _
    rw [List.getD_eq_getElem?_getD, hj]; rfl
   refine ⟨62, ?_⟩
   refine Co.ctl hMc rfl (fun _ => stepG_block) (Co.ctl hMc rfl (fun _ => stepG_loop) ?_)
   refine spawn101 (ph := x.ph N0 h) rfl hS (by show l.length < 1000; omega) rfl hf hname hbo hnum hval jH jK jV jI jP jT jZ jJ jO jF qA jS jW jL jQ jM jU jX jR jN jY (fun t8 t9 jD jC jE jG jA jB => ?_) l.length 0 (Nat.zero_add _) t8 t9 jD jC jE jG jA jB
   refine close101 (m := 2) (ph := x.ph N0 h) rfl rfl hS (by show l.length < 1000; omega) t8 t9 jH jK jV jI jP jT jZ jJ jO jD jC jE jG jA jB jF qA jS jW jL jQ jM jU jX jR jN jY fun jF => ?_
   exact recv101 (ph := x.ph N0 h) rfl rfl hSmc hSn (.tail _ (.tail _ (.tail _ (.head _)))) (fun j _ => rfl) rfl l.length [] List.nodup_nil (by simp) (Nat.zero_add _) t8 t9 jH jK jV jI jP jT jZ jJ jO jD jC jE jG jA jB jF jS jW jL jQ jM jU jX jR jN jY
  ·obtain ⟨t8, t9, jH, jK, jV, jI, jP, jT, jZ, jJ, jO, jD, jC, jE, jG, jA, jB, jF, qA, jS, jW, jL, jQ, jM, jU, jX, jR, jN, jY, got, hgot, rfl, rfl⟩ := hE
   refine ⟨_, rfl, mc_own hSmc, fun w2 hp2 ho2 hu2 hH2 hs2 hsame2 => ?_⟩
   have hout : w2.heap[w0.heap.size + 2]? = some (.cells (outsOf ys l.length got) 3 (0, 0)) := hH2 _ _ true (by simp)
   have hbO : w2.heap[w0.heap.size + 3]? = some (.cells #[.slice (some ⟨w0.heap.size + 2, 0, none⟩) l.length l.length] 22 (0, 0)) := hH2 _ _ false (List.mem_append_left _ (.tail _ (.tail _ (.tail _ (.head _)))))
   refine after101 hP hp2 rfl hbO _ _ _ _ _ _ _ _ _ _ _ _ _ _ _ _ _ _ _ _ _ _ _ _ _ _ _ _ _ fun a' w' h1 h2 h3 hd hr hp' todo htodo => ?_
   refine hK a' w' hd ⟨_, hr, w0.heap.size + 2, rfl, by omega, ?_, ?_⟩ hp' todo htodo
   ·rw [h1, hout]
    exact congrArg (fun a => some (Obj.cells a 3 (0, 0))) (outsOf_all l num got hgot)
   ·have hsz := hB.size
    refine ⟨by rw [h2, ho2, hB.os], by rw [h3, hu2, hB.output], by rw [h1]; omega, fun k hk => ?_⟩
    rw [h1, hsame2 k (by omega) (by show k ≠ w0.heap.size + 4; omega) (by show k ≠ w0.heap.size + 6; omega) ?_]
    ·exact hB.same k hk
    ·rintro ⟨o, hb⟩
     simp only [List.mem_append, List.mem_singleton, Prod.mk.injEq] at hb
     rcases hb with hb | ⟨h, _⟩
     ·have := hSro _ _ _ hb; cases this
     ·omega
theorem num103 : Num 103 #[] fun x off => bill off x := by
 intro St n M c cs x bf off hM hb h
 exact co103 x hM hb h
end Go.Ov
namespace Go.Ov
open Go.Conc Go.Proofs Go.RowKit Go.Maps Go.Proofs.YtfgedbakbljgfaaW.PrintWords Go.Proofs.YtfgedbakbljgfaaW.PrintLast Go.Proofs.YtfgedbakbljgfaaW.PrintMore Go.Proofs.Ytfgedbakbljgfaa.PBoldSheets
noncomputable def c72_0 : Array Oper := (fun {c} (_ : rg Try.f72 0 = some c) => c) rfl
noncomputable def c72_1 : Array Oper := (fun {c} (_ : rg Try.f72 1 = some c) => c) rfl
noncomputable def b72 : Code := (.seq (.region 0 c72_0 false) (.seq (.region 1 c72_1 false) Code.ret))
theorem body72 : Try.f72.body = some b72 := by kernel_rfl
def billsOf (p b l c off grp : Int) (streets : List Int) (adv : List S39) : List Int := (accountsOf p b l c off grp streets adv).map fun q => bill q.2 q.1
theorem billsOf_length (p b l c off grp : Int) (streets : List Int) (adv : List S39) : (billsOf p b l c off grp streets adv).length = streets.length := by
 rw [billsOf, List.length_map, accountsOf_length]
structure Nums (w0 : World) (l : List Int) (v : Value) (w1 : World) : Prop where
 ex : ∃ g, v = .slice (some ⟨g, 0, none⟩) l.length l.length ∧ w0.heap.size ≤ g ∧ w1.heap[g]? = some (.cells (nums .i64 l).toArray 3 (0, 0))
section
variable {R : Row} {w0 : World} {p b l c off grp : Int} {As Aa : Option Addr} {ns ca cs0 na : Nat} {streets : List Int} {adv : List S39}
theorem Sold.on (h : Sold w0 As ns Aa na streets adv) (τ : Tape) (d : Nat) : Sold (w0.on τ d) As ns Aa na streets adv := ⟨h.st, h.ad, h.lens, h.lena, h.maxs, h.maxa, h.who⟩
theorem Sold.fr {w1 : World} (h : Sold w0 As ns Aa na streets adv) (hf : Fr w0 w1) : Sold w1 As ns Aa na streets adv := by
 have h1 : Sold { w1 with tape := w0.tape } As ns Aa na streets adv := h.below ⟨hf.os, rfl, hf.output, hf.size, hf.same⟩
 exact ⟨h1.st, h1.ad, h1.lens, h1.lena, h1.maxs, h1.maxa, h1.who⟩
theorem Fr.on {w w' : World} {τ : Tape} {d : Nat} (h : Fr (w.on τ d) w') : Fr w w' := ⟨h.os, h.output, h.size, h.same⟩
theorem row72 (hP : R.P = Try.prog) (hS : Sold w0 As ns Aa na streets adv) :
  R.Calls 72 #[.agg (sal p b l c off grp As ns cs0 Aa na ca)] w0 fun v w1 => Nums w0 (billsOf p b l c off grp streets adv) v w1 ∧ Fr w0 w1 := by
 refine Row.calls_from (tmps := #[.agg (sal p b l c off grp As ns cs0 Aa na ca), undef, undef, undef, undef]) (fn := Try.f72) (by rw [hP]; kernel_rfl) body72 (by kernel_rfl) fun hp ok cs hK => ?_
 refine Row.to (X := At (baseN 72) [.inRegion c72_1 [1, 2], .code .ret] fun a w => a = ({ tmps := #[.agg (sal p b l c off grp As ns cs0 Aa na ca), ptr w0.heap.size, .slice none 0 0, .agg (sal p b l c off grp As ns cs0 Aa na ca), undef], defers := [] } : Act) ∧ Fr w0 w) ok rfl hp (fun τ d => ?_) ?_
 ·rw [hP]
  unfold b72
  refine To.seq (To.code fun Kc hKc => ?_)
  unfold c72_0
  go_wp2
  refine hKc _ _ (To.seq (To.region rfl (To.op (o := ⟨some 3, .load 36 (.tmp 1), 36, "bold.go:193", #[], none⟩) rfl rfl fun Kc hKc => ?_)))
  go_simp
  refine hKc _ _ (To.here ⟨_, rfl, ?_, ?_⟩)
  ·rfl
  ·exact Fr.on (Fr.of_below ((Below.refl (w0.on τ d).heap.size _).alloc (Nat.le_refl _) _))
 ·rintro fr w1 ⟨a, rfl, rfl, hf⟩ ok1 hk1 hp1
  have hl := accountsOf_length p b l c off grp streets adv
  have hr := reckon101 hP (w0 := w1) (.int .i64 p) (.int .i64 b) (.int .i64 l) (.int .i64 c) (.int .i64 grp) (.slice Aa na ca) off As cs0 (accountsOf p b l c off grp streets adv) (accountsOf_off p b l c off grp streets adv) (by rw [hl, hS.lens]; exact hS.maxs)
   (fun τ d W hW => by rw [hl, hS.lens]; exact calls117 (((hS.fr hf).on τ d).below hW)) (show Try.prog.funcs[103]? = some Try.f103 by kernel_rfl) rfl rfl num103
  rw [hl, hS.lens] at hr
  refine Row.callOp (o := ⟨some 4, .call ⟨.value (.func 101), #[.tmp 3, .func 103], #[36, 137]⟩, 22, "bold.go:193", #[⟨0, .data⟩], none⟩) ok1 rfl hp1 rfl rfl (fun w => ?_) hr fun v w2 hv hp2 ok2 => ?_
  ·rw [hP]
   exact run_call rfl (show Try.prog.funcs[101]? = some Try.f101 by kernel_rfl) rfl rfl (by simp [Act.eval])
  ·obtain ⟨g, rfl, hg, hcell, hf2⟩ := hv
   refine Row.to (X := Out R.P 72 fun v w1 => Nums w0 (billsOf p b l c off grp streets adv) v w1 ∧ Fr w0 w1) ok2 rfl hp2 (fun τ d => ?_) fun fr w3 hx ok3 _ hp3 => hK fr w3 hx ok3 hp3
   rw [hP]
   refine To.op (o := ⟨some 2, .assign (.tmp 4), 22, "bold.go:193", #[⟨1, .data⟩, ⟨1, .chain⟩, ⟨0, .phase⟩, ⟨1, .phase⟩], none⟩) rfl rfl fun Kc hKc => ?_
   go_simp
   refine hKc _ _ (To.regionEnd (To.ret Try.func72 rfl (results_tmp rfl _ _ _) ⟨⟨g, ?_, ?_, ?_⟩, ?_⟩))
   ·rw [billsOf_length, hS.lens]; rfl
   ·exact Nat.le_trans hf.size hg
   ·have e : (nums .i64 (billsOf p b l c off grp streets adv)) = ((accountsOf p b l c off grp streets adv).map fun q => Value.int .i64 (bill q.2 q.1)) := by simp [nums, billsOf]
    rw [e]; exact hcell
   ·exact hf.trans ⟨hf2.os, hf2.output, hf2.size, hf2.same⟩
end
noncomputable def c73_0 : Array Oper := (fun {c} (_ : rg Try.f73 0 = some c) => c) rfl
noncomputable def c73_1 : Array Oper := (fun {c} (_ : rg Try.f73 1 = some c) => c) rfl
noncomputable def c73_2 : Array Oper := (fun {c} (_ : rg Try.f73 2 = some c) => c) rfl
noncomputable def c73_3 : Array Oper := (fun {c} (_ : rg Try.f73 3 = some c) => c) rfl
noncomputable def b73 : Code := (.seq (.region 0 c73_0 false) (.seq (.region 1 c73_1 false) (.seq (.region 2 c73_2 true) (.seq (.region 3 c73_3 false) Code.ret))))
theorem body73 : Try.f73.body = some b73 := by kernel_rfl
noncomputable def h73 : Array Oper := #[⟨some 9, .fieldAddr 36 (.tmp 2) 2, 0, "bold.go:252", #[], none⟩, ⟨some 10, .load 34 (.tmp 9), 34, "bold.go:252", #[⟨0, .data⟩], none⟩, ⟨some 11, .move (.tmp 5), 3, "bold.go:252", #[], none⟩, ⟨some 12, .move (.tmp 5), 3, "bold.go:252", #[], none⟩, ⟨some 13, .slice 34 (.tmp 10) none (some (.tmp 11)) (some (.tmp 12)), 34, "bold.go:252", #[⟨1, .data⟩, ⟨2, .data⟩, ⟨3, .data⟩], none⟩, ⟨some 14, .load 39 (.tmp 3), 39, "bold.go:252", #[], none⟩, ⟨some 15, .buildSlice 34 1 #[(0, .tmp 14)], 34, "bold.go:252", #[⟨5, .data⟩], none⟩, ⟨some 16, .call ⟨.builtin .append, #[.tmp 13, .tmp 15], #[34, 34]⟩, 34, "bold.go:252", #[⟨4, .data⟩, ⟨6, .data⟩], none⟩]
theorem cut73 : Cut .any c73_2 h73 8 2 := by
 refine Cut.of (fun i hi => ?_) (by kernel_rfl)
 have : i = 0 ∨ i = 1 ∨ i = 2 ∨ i = 3 ∨ i = 4 ∨ i = 5 ∨ i = 6 ∨ i = 7 := by omega
 rcases this with rfl | rfl | rfl | rfl | rfl | rfl | rfl | rfl <;> rfl
theorem run_slice_full (A : Option Addr) (n c : Nat) (hc : n ≤ c) (w : World) :
  (Instr.slice 34 (.slice A n c) none (some (.int .i64 (n : Int))) (some (.int .i64 (n : Int)))).run Try.prog w = .ok (.slice A n n) w := by
 obtain ⟨i, hi, hz⟩ := Option.map_eq_some_iff.1 info39
 unfold Instr.slice
 have hc' : (n : Int) ≤ (c : Int) := by omega
 have hA : (if n = 0 then A else Option.map (fun x => x.add 0) A) = A := by
  split
  ·rfl
  ·cases A <;> simp [Addr.add]
 simp [run_underlying Try.underlying34, asInt, asIntOf, Instr.sliceBounds, Instr.sliceBound, hc, hc', sizeOf, typeInfo, hi, hA]
theorem grow34 {w : World} (A : Option Addr) (n : Nat) (hA : A = none → n = 0) (olds : List Value) (hlo : olds.length = n * 3) (holds : ∀ b, A = some b → ∀ j u, olds[j]? = some u → w.cell? (b.add j) = some u) (hn : n ≤ 1000000)
  (ad : Addr) (news : List Value) (hl : news.length = 3) (hnews : ∀ j u, news[j]? = some u → w.cell? (ad.add j) = some u) (h1c : ∀ u ∈ news, u.oneCell' = true) (ty : TypeId) :
  ∃ v' w', (Builtin.append_ #[34, 34] ty #[.slice A n n, .slice (some ad) 1 1]).run Try.prog w = .ok v' w' ∧ w'.ownsRow w.heap.size 39 3 v' (n + 1) (olds ++ news) ∧ w.grownBy w' none := by
 obtain ⟨i, hi, hz⟩ := Option.map_eq_some_iff.1 info39
 simp only [Prod.mk.injEq] at hz
 obtain ⟨hz0, hz1, hz2⟩ := hz
 cases A with
 | some b => exact run_append_arg_grows (P := Try.prog) w 34 ty 39 i _ 3 24 Try.underlying34 hi hz0 hz1 hz2 rfl (by omega) b n n olds hlo (holds b rfl) ad 1 1 news (by simpa using hl) hnews (by omega) (by simp only [maxLen]; omega) (by omega)
 | none =>
  obtain rfl := hA rfl
  obtain rfl : olds = [] := List.eq_nil_of_length_eq_zero (by simpa using hlo)
  obtain ⟨v', w', hrun, r1, r2, _⟩ := run_append_own (P := Try.prog) w w.heap.size 34 ty 39 i _ 3 24 Try.underlying34 hi hz0 hz1 hz2 rfl (by omega) (.slice none 0 0) 0 [] (World.ownsRow_nil w _ 39 3) ad 1 1 news (by simpa using hl) hnews h1c (by simp [maxLen]) (by omega) (Nat.le_refl _)
  exact ⟨v', w', hrun, by simpa using r1, by simpa [Value.ownBlock] using r2⟩
theorem step_append_run {P : Program} {ops : Array Oper} {o : Oper} {a : Act} {Q : Exit → Act → World → Prop} {K : Act → World → Prop} {W w' : World} (hw : Region.wanted o (yielded ops a.tmps) = true) (s x : Operand) (t : TypeId)
  (ho : o.op = .call { callee := .builtin .append, args := #[s, x], argTypes := #[t, t] }) (vs vx v : Value) (hs : a.eval s = vs) (hx : a.eval x = vx)
  (hr : (Builtin.append_ #[t, t] o.type #[vs, vx]).run P W = .ok v w') (h : K (a.put o.dst v) w') :
  if Region.wanted o (yielded ops a.tmps) = true then Oper.wp P o a W K Q else K (a.put o.dst undef) W := by
 rw [if_pos hw]
 unfold Oper.wp execOp
 simp only [ho, resolve, invoke, builtin, Sem.run_bind, Sem.run_pure, Result.andThen_ok, List.map_toArray, List.map_cons, List.map_nil, hs, hx, hr]
 exact h
section
variable {w0 : World} {p b l c off grp : Int} {As Aa : Option Addr} {ns ca cs0 na : Nat} {streets : List Int} {adv : List S39}
abbrev Held73 (B : Nat) (Aa : Option Addr) (na ca : Nat) (x : S39) (w : World) : Prop :=
 w.cell? ⟨B, 7, none⟩ = some (.slice Aa na ca) ∧ w.cell? ⟨B + 1, 0, none⟩ = some (.int .i64 x.f0) ∧ w.cell? ⟨B + 1, 1, none⟩ = some (.int .i64 x.f1) ∧ w.cell? ⟨B + 1, 2, none⟩ = some (.int .i64 x.f2)
theorem Held73.below {B : Nat} {x : S39} {w w' : World} (h : Held73 B Aa na ca x w) (hb : Below w.heap.size w w') : Held73 B Aa na ca x w' :=
 ⟨pw_cell_below hb h.1, pw_cell_below hb h.2.1, pw_cell_below hb h.2.2.1, pw_cell_below hb h.2.2.2⟩
set_option maxHeartbeats 4000000 in
theorem calls73 (hS : Sold w0 As ns Aa na streets adv) (hca : na ≤ ca) (x : S39) :
  Calls Try.prog 73 #[.agg (sal p b l c off grp As ns cs0 Aa na ca), .agg #[.int .i64 x.f0, .int .i64 x.f1, .int .i64 x.f2]] w0 fun e w' => ∃ v, e = .returned v ∧ ∃ A2 c2, v = .agg (sal p b l c off grp As ns cs0 A2 (na + 1) c2) ∧ na + 1 ≤ c2 ∧ Kd.C k39 w' A2 (na + 1) (adv ++ [x]) ∧ Below w0.heap.size w0 w' := by
 refine calls_of_to (tmps := #[.agg (sal p b l c off grp As ns cs0 Aa na ca), .agg #[.int .i64 x.f0, .int .i64 x.f1, .int .i64 x.f2], undef, undef, undef, undef, undef, undef, undef, undef, undef, undef, undef, undef, undef, undef, undef, undef, undef]) Try.func73 body73 (by kernel_rfl) fun cs => ?_
 have hu := Try.underlying36
 have hmaxa := hS.maxa
 unfold b73
 refine To.seq (To.code fun Kc hKc => ?_)
 unfold c73_0
 go_wp2
 refine hKc _ _ (To.seq (To.code fun Kc hKc => ?_))
 unfold c73_1
 go_wp2
 refine hKc _ _ (To.seq (To.code fun Kc hKc => ?_))
 have hz3 : (((w0.alloc (Obj.cells (sal p b l c off grp As ns cs0 Aa na ca) 36)).alloc (Obj.cells #[.int .i64 x.f0, .int .i64 x.f1, .int .i64 x.f2] 39)).alloc (Obj.cells #[.int .i64 0, .int .i64 0, .int .i64 0, .int .i64 0, .int .i64 0, .int .i64 0, .slice none 0 0, .slice none 0 0] 36)).heap.size = w0.heap.size + 3 := by simp
 have hbW : Below w0.heap.size w0 (((w0.alloc (Obj.cells (sal p b l c off grp As ns cs0 Aa na ca) 36)).alloc (Obj.cells #[.int .i64 x.f0, .int .i64 x.f1, .int .i64 x.f2] 39)).alloc (Obj.cells #[.int .i64 0, .int .i64 0, .int .i64 0, .int .i64 0, .int .i64 0, .int .i64 0, .slice none 0 0, .slice none 0 0] 36)) := (((Below.refl _ _).alloc (Nat.le_refl _) _).alloc (by simp) _).alloc (by simp; omega) _
 have hW0 : (((w0.alloc (Obj.cells (sal p b l c off grp As ns cs0 Aa na ca) 36)).alloc (Obj.cells #[.int .i64 x.f0, .int .i64 x.f1, .int .i64 x.f2] 39)).alloc (Obj.cells #[.int .i64 0, .int .i64 0, .int .i64 0, .int .i64 0, .int .i64 0, .int .i64 0, .slice none 0 0, .slice none 0 0] 36)).heap[w0.heap.size]? = some (.cells (sal p b l c off grp As ns cs0 Aa na ca) 36 (0, 0)) := by
  rw [Below.heap_alloc _ _ _ (by simp; omega), Below.heap_alloc _ _ _ (by simp)]
  exact heap_alloc_new w0 _
 have hW1 : (((w0.alloc (Obj.cells (sal p b l c off grp As ns cs0 Aa na ca) 36)).alloc (Obj.cells #[.int .i64 x.f0, .int .i64 x.f1, .int .i64 x.f2] 39)).alloc (Obj.cells #[.int .i64 0, .int .i64 0, .int .i64 0, .int .i64 0, .int .i64 0, .int .i64 0, .slice none 0 0, .slice none 0 0] 36)).heap[w0.heap.size + 1]? = some (.cells #[.int .i64 x.f0, .int .i64 x.f1, .int .i64 x.f2] 39 (0, 0)) := by
  rw [Below.heap_alloc _ _ _ (by simp)]
  have h := heap_alloc_new (w0.alloc (Obj.cells (sal p b l c off grp As ns cs0 Aa na ca) 36)) (Obj.cells #[.int .i64 x.f0, .int .i64 x.f1, .int .i64 x.f2] 39)
  simpa using h
 have hW2 : (((w0.alloc (Obj.cells (sal p b l c off grp As ns cs0 Aa na ca) 36)).alloc (Obj.cells #[.int .i64 x.f0, .int .i64 x.f1, .int .i64 x.f2] 39)).alloc (Obj.cells #[.int .i64 0, .int .i64 0, .int .i64 0, .int .i64 0, .int .i64 0, .int .i64 0, .slice none 0 0, .slice none 0 0] 36)).heap[w0.heap.size + 2]? = some (.cells #[.int .i64 0, .int .i64 0, .int .i64 0, .int .i64 0, .int .i64 0, .int .i64 0, .slice none 0 0, .slice none 0 0] 36 (0, 0)) := by
  have h := heap_alloc_new ((w0.alloc (Obj.cells (sal p b l c off grp As ns cs0 Aa na ca) 36)).alloc (Obj.cells #[.int .i64 x.f0, .int .i64 x.f1, .int .i64 x.f2] 39)) (Obj.cells #[.int .i64 0, .int .i64 0, .int .i64 0, .int .i64 0, .int .i64 0, .int .i64 0, .slice none 0 0, .slice none 0 0] 36)
  simpa using h
 generalize (((w0.alloc (Obj.cells (sal p b l c off grp As ns cs0 Aa na ca) 36)).alloc (Obj.cells #[.int .i64 x.f0, .int .i64 x.f1, .int .i64 x.f2] 39)).alloc (Obj.cells #[.int .i64 0, .int .i64 0, .int .i64 0, .int .i64 0, .int .i64 0, .int .i64 0, .slice none 0 0, .slice none 0 0] 36)) = W at hz3 hbW hW0 hW1 hW2 ⊢
 refine wp_region_cut (by kernel_rfl) cut73 (wpAny_of_held (S := Held73 w0.heap.size Aa na ca x) _ _ _ _ ?_)
 have hHeld : Held73 w0.heap.size Aa na ca x { W with drawn := W.drawn + 1 } := ⟨blk_cell hW0 7, blk_cell hW1 0, blk_cell hW1 1, blk_cell hW1 2⟩
 have hB0 : Below W.heap.size W { W with drawn := W.drawn + 1 } := Below.drew (Below.refl _ _)
 generalize ({ W with drawn := W.drawn + 1 } : World) = w1 at hHeld hB0 ⊢
 have hsl := run_slice_full Aa na ca hca
 unfold h73
 refine wpAnyH_take (i := 0) (v := .pointer (some ⟨w0.heap.size, 7, none⟩)) rfl (by kernel_rfl) (by kernel_rfl) (by kernel_rfl) (fun _ _ _ h => h) (Or.inl ⟨by rfl, ?_⟩) hHeld ?_
 ·intro w ⟨h0, h1, h2, h3⟩
  go_simp
 try simp only [pt]
 refine wpAnyH_take (i := 1) (v := .slice Aa na ca) rfl (by kernel_rfl) (by kernel_rfl) (by kernel_rfl) (fun _ _ _ h => h) (Or.inl ⟨by rfl, ?_⟩) hHeld ?_
 ·intro w ⟨h0, h1, h2, h3⟩
  go_simp
 try simp only [pt]
 refine wpAnyH_take (i := 2) (v := .int .i64 na) rfl (by kernel_rfl) (by kernel_rfl) (by kernel_rfl) (fun _ _ _ h => h) (Or.inl ⟨by rfl, ?_⟩) hHeld ?_
 ·intro w ⟨h0, h1, h2, h3⟩
  go_simp
 try simp only [pt]
 refine wpAnyH_take (i := 3) (v := .int .i64 na) rfl (by kernel_rfl) (by kernel_rfl) (by kernel_rfl) (fun _ _ _ h => h) (Or.inl ⟨by rfl, ?_⟩) hHeld ?_
 ·intro w ⟨h0, h1, h2, h3⟩
  go_simp
 try simp only [pt]
 refine wpAnyH_take (i := 4) (v := .slice Aa na na) rfl (by kernel_rfl) (by kernel_rfl) (by kernel_rfl) (fun _ _ _ h => h) (Or.inl ⟨by rfl, ?_⟩) hHeld ?_
 ·intro w ⟨h0, h1, h2, h3⟩
  go_simp
 try simp only [pt]
 refine wpAnyH_take (i := 5) (v := .agg #[.int .i64 x.f0, .int .i64 x.f1, .int .i64 x.f2]) rfl (by kernel_rfl) (by kernel_rfl) (by kernel_rfl) (fun _ _ _ h => h) (Or.inl ⟨by rfl, ?_⟩) hHeld ?_
 ·intro w ⟨h0, h1, h2, h3⟩
  go_simp
 try simp only [pt]
 refine wpAnyH_ready (rs := [6]) (by kernel_rfl) (by simp) ?_
 refine AllReadyH.cons (o := ⟨some 15, .buildSlice 34 1 #[(0, .tmp 14)], 34, "bold.go:252", #[⟨5, .data⟩], none⟩) rfl (fun K' hK' => ?_) AllReadyH.nil
 go_simp
 have hba := below_alloc (Below.refl w1.heap.size w1) (Obj.cells #[.int .i64 x.f0, .int .i64 x.f1, .int .i64 x.f2] 39)
 refine hK'.out _ _ (hHeld.below hba) (fun hHeld2 => ?_)
 replace hB0 := below_then hB0 hB0.size hba
 have hnews : ∀ j u, [Value.int .i64 x.f0, .int .i64 x.f1, .int .i64 x.f2][j]? = some u → (w1.alloc (Obj.cells #[.int .i64 x.f0, .int .i64 x.f1, .int .i64 x.f2] 39)).cell? ((⟨w1.heap.size, 0, none⟩ : Addr).add j) = some u := fun j u hj => by
  rw [add_plain, cell_box]; simpa using hj
 clear hK' K' hHeld hba
 generalize hw2 : w1.alloc (Obj.cells #[.int .i64 x.f0, .int .i64 x.f1, .int .i64 x.f2] 39) = w2 at hB0 hHeld2 hnews ⊢
 try simp only [pt]
 refine wpAnyH_ready (rs := [7]) (by kernel_rfl) (by simp) ?_
 refine AllReadyH.cons (o := ⟨some 16, .call ⟨.builtin .append, #[.tmp 13, .tmp 15], #[34, 34]⟩, 34, "bold.go:252", #[⟨4, .data⟩, ⟨6, .data⟩], none⟩) rfl (fun K' hK' => ?_) AllReadyH.nil
 have hbA : Below w0.heap.size w0 w2 := hbW.trans (hB0.mono (by omega))
 have hadW : Kd.C k39 w2 Aa na adv := Kd.C_below hS.ad hbA
 have hlA := hS.lena
 obtain ⟨olds, hreps, holds⟩ : ∃ olds, Reps (k39.K w2) 3 adv olds ∧ ∀ b, Aa = some b → ∀ j u, olds[j]? = some u → w2.cell? (b.add j) = some u := by
  cases Aa with
  | none =>
   have : adv = [] := by
    apply List.eq_nil_of_length_eq_zero
    rcases Nat.eq_zero_or_pos na with h | h
    ·omega
    ·obtain ⟨ad, e, _⟩ := hS.ad.2.2 h
     simp at e
   subst this
   exact ⟨[], Reps.none _ _, fun b e => by simp at e⟩
  | some b =>
   obtain ⟨inner, h1, h2⟩ := ReadsRow.inner_ hadW
   exact ⟨inner, h1, fun b' e => by injection e with e; subst e; exact h2⟩
 have hnone : Aa = none → na = 0 := fun e => by
  rcases Nat.eq_zero_or_pos na with h | h
  ·exact h
  ·obtain ⟨ad, e', _⟩ := hS.ad.2.2 h
   rw [e] at e'
   simp at e'
 obtain ⟨v2, w3, hrun, hown, hgr⟩ := grow34 Aa na hnone olds (by rw [hreps.1, hlA]) holds (by omega) ⟨w1.heap.size, 0, none⟩ [.int .i64 x.f0, .int .i64 x.f1, .int .i64 x.f2] rfl hnews (by intro u hu; simp at hu; rcases hu with rfl | rfl | rfl <;> rfl) 34
 refine step_append_run (by kernel_rfl) _ _ 34 rfl _ _ v2 rfl rfl hrun ?_
 have hb3 : Below w2.heap.size w2 w3 := (Below.refl _ _).grown hgr (Nat.le_refl _) (by simp)
 refine hK'.out _ _ (hHeld2.below hb3) (fun hHeld3 => ?_)
 have hK39 : ∀ (u u' : World) p c, k39.K u p c → k39.K u' p c := fun u u' p c h => by rw [k39_open h]; exact k39_mk u' p
 have hrow : OwnRow (k39.K w3) 39 3 w3 w2.heap.size v2 (adv ++ [x]) := ⟨olds ++ [.int .i64 x.f0, .int .i64 x.f1, .int .i64 x.f2], by rw [List.length_append, List.length_singleton, hlA]; exact hown, (hreps.imp_ (hK39 w2 w3)).snoc (k39_mk w3 x) rfl⟩
 have hbW3 : Below W.heap.size W w3 := hB0.trans (hb3.mono hB0.size)
 have hW0 := (hbW3.block _ (by omega)).trans hW0
 have hW2 := (hbW3.block _ (by omega)).trans hW2
 have hb03 : Below w0.heap.size w0 w3 := hbA.trans (hb3.mono (by have := hB0.size; omega))
 have h3s : w0.heap.size + 3 ≤ w3.heap.size := by have := hbW3.size; omega
 clear hK' K' hHeld2 hb3 hgr hrun hown hreps holds hadW hnews hW1 hbW hbW3 hbA hw2 hHeld3
 try simp only [pt]
 refine wpAnyH_done (by kernel_rfl) ?_ _
 show wpOps Try.prog c73_2 _ [8, 9] _ _
 refine wpOps_step (o := ⟨some 17, .fieldAddr 36 (.tmp 2) 2, 0, "bold.go:252", #[⟨0, .phase⟩, ⟨1, .phase⟩, ⟨2, .phase⟩, ⟨3, .phase⟩, ⟨4, .phase⟩, ⟨5, .phase⟩, ⟨6, .phase⟩, ⟨7, .phase⟩], none⟩) rfl rfl fun K' hK' => ?_
 go_simp
 refine hK' _ _ ?_
 clear hK' K'
 try simp only [pt]
 have h7 := blk_cell hW0 7
 have hf7 := blk_frozen hW0 7
 refine wpOps_step (o := ⟨none, .store 34 (.tmp 17) (.tmp 16), 0, "bold.go:252", #[⟨8, .data⟩, ⟨7, .data⟩, ⟨7, .chain⟩, ⟨0, .phase⟩, ⟨1, .phase⟩, ⟨2, .phase⟩, ⟨3, .phase⟩, ⟨4, .phase⟩, ⟨5, .phase⟩, ⟨6, .phase⟩, ⟨7, .phase⟩], none⟩) rfl rfl fun K' hK' => ?_
 obtain ⟨A2, c2, rfl, hc2⟩ := hrow.slice_
 have hlen : (adv ++ [x]).length = na + 1 := by rw [List.length_append, List.length_singleton, hlA]
 rw [hlen] at hrow hc2 ⊢
 go_simp
 refine hK' _ _ ?_
 clear hK' K' h7 hf7
 have hset := blk_set hW0 7 (.slice A2 (na + 1) c2)
 have hset2 := blk_far hW2 (p := ⟨w0.heap.size, 7, none⟩) (by simp) (.slice A2 (na + 1) c2)
 have hrow := hrow.set_ hW0 (by decide) 7 (.slice A2 (na + 1) c2)
 have hb04 : Below w0.heap.size w0 (w3.setCell ⟨w0.heap.size, 7, none⟩ (.slice A2 (na + 1) c2)) := hb03.setCell (Nat.le_refl _) _
 generalize w3.setCell ⟨w0.heap.size, 7, none⟩ (.slice A2 (na + 1) c2) = w4 at hset hset2 hrow hb04 ⊢
 show Kc _ _
 refine hKc _ _ (To.seq (To.code fun Kc hKc => ?_))
 have hi36 : (Try.prog.info? 36).map (·.size) = some 8 := by kernel_rfl
 unfold c73_3
 go_wp2_with (first | refine wpList_load_row rfl 36 (.tmp 2) rfl w0.heap.size rfl 36 _ (0, 0) _ hset Try.underlying36 rfl hi36 ?_ | refine wpList_store_row rfl 36 (.tmp 4) (.tmp 18) rfl (w0.heap.size + 1 + 1) (sal p b l c off grp As ns cs0 A2 (na + 1) c2) rfl rfl 36 _ hset2 hi36 rfl (by simp [Value.oneCell']) ?_)
 have hset5 := setRow_heap w4 (w0.heap.size + 1 + 1) _ (sal p b l c off grp As ns cs0 A2 (na + 1) c2) _ _ hset2
 have hoth : ∀ k, k ≠ w0.heap.size + 1 + 1 → (w4.setRow (w0.heap.size + 1 + 1) (sal p b l c off grp As ns cs0 A2 (na + 1) c2)).heap[k]? = w4.heap[k]? := fun k hk => by
  simp only [World.setRow, Array.getElem?_modify]
  rw [if_neg (fun e => hk e.symm)]
 have hb5 : Below w0.heap.size w0 (w4.setRow (w0.heap.size + 1 + 1) (sal p b l c off grp As ns cs0 A2 (na + 1) c2)) := ⟨hb04.os, hb04.tape, hb04.output, by rw [size_setRow]; exact hb04.size, fun k hk => (hoth k (by omega)).trans (hb04.block k hk)⟩
 have hrow5 : OwnRow (k39.K w3) 39 3 (w4.setRow (w0.heap.size + 1 + 1) (sal p b l c off grp As ns cs0 A2 (na + 1) c2)) w2.heap.size (.slice A2 (na + 1) c2) (adv ++ [x]) := by
  obtain ⟨inner, ho, hr⟩ := hrow
  refine ⟨inner, own_move ho (fun k hk => hoth k (fun e => ?_)), hr⟩
  have := own_base ho k hk
  have := hB0.size
  omega
 generalize w4.setRow (w0.heap.size + 1 + 1) (sal p b l c off grp As ns cs0 A2 (na + 1) c2) = w5 at hset5 hb5 hrow5 ⊢
 refine hKc _ _ (To.ret Try.func73 rfl (results_cell_row rfl _ _ (w0.heap.size + 1 + 1) 36 _ (0, 0) _ rfl hset5 Try.underlying36 rfl hi36) ⟨A2, c2, rfl, hc2, ?_, hb5⟩)
 obtain ⟨A3, c3, e, _, hr⟩ := hrow5.reads
 injection e with e1 e2 e3
 subst e1
 rw [hlen] at hr
 exact hr.imp_ (Below.refl _ _) (hK39 w3 w5)
end
noncomputable def c111_0 : Array Oper := (fun {c} (_ : rg Try.f111 0 = some c) => c) rfl
noncomputable def c111_1 : Array Oper := (fun {c} (_ : rg Try.f111 1 = some c) => c) rfl
noncomputable def b111 : Code := (.seq (.region 0 c111_0 false) (.seq (.region 1 c111_1 false) Code.ret))
theorem body111 : Try.f111.body = some b111 := by kernel_rfl
noncomputable def c77_0 : Array Oper := (fun {c} (_ : rg Try.f77 0 = some c) => c) rfl
noncomputable def c77_1 : Array Oper := (fun {c} (_ : rg Try.f77 1 = some c) => c) rfl
noncomputable def c77_2 : Array Oper := (fun {c} (_ : rg Try.f77 2 = some c) => c) rfl
noncomputable def c77_3 : Array Oper := (fun {c} (_ : rg Try.f77 3 = some c) => c) rfl
noncomputable def c77_4 : Array Oper := (fun {c} (_ : rg Try.f77 4 = some c) => c) rfl
noncomputable def c77_5 : Array Oper := (fun {c} (_ : rg Try.f77 5 = some c) => c) rfl
noncomputable def c77_6 : Array Oper := (fun {c} (_ : rg Try.f77 6 = some c) => c) rfl
noncomputable def c77_7 : Array Oper := (fun {c} (_ : rg Try.f77 7 = some c) => c) rfl
noncomputable def c77_8 : Array Oper := (fun {c} (_ : rg Try.f77 8 = some c) => c) rfl
noncomputable def c77_9 : Array Oper := (fun {c} (_ : rg Try.f77 9 = some c) => c) rfl
noncomputable def c77_10 : Array Oper := (fun {c} (_ : rg Try.f77 10 = some c) => c) rfl
noncomputable def c77_11 : Array Oper := (fun {c} (_ : rg Try.f77 11 = some c) => c) rfl
noncomputable def c77_12 : Array Oper := (fun {c} (_ : rg Try.f77 12 = some c) => c) rfl
noncomputable def c77_13 : Array Oper := (fun {c} (_ : rg Try.f77 13 = some c) => c) rfl
noncomputable def b77 : Code := (.seq (.region 0 c77_0 false) (.seq (.region 1 c77_1 false) (.seq (.region 2 c77_2 false) (.seq (.seq (.region 3 c77_3 false) (.cond (Operand.tmp 11) (.seq (.seq (.region 4 c77_4 false) (.cond (Operand.tmp 12) (.seq (.region 5 c77_5 false) Code.ret) Code.skip)) (.seq (.region 6 c77_6 false) Code.ret)) Code.skip)) (.seq (.seq (.region 7 c77_7 false) (.cond (Operand.tmp 13) (.seq (.region 8 c77_8 false) Code.ret) Code.skip)) (.seq (.seq (.region 9 c77_9 false) (.cond (Operand.tmp 16) (.seq (.region 10 c77_10 false) Code.ret) Code.skip)) (.seq (.seq (.region 11 c77_11 false) (.cond (Operand.tmp 19) (.seq (.region 12 c77_12 false) Code.ret) Code.skip)) (.seq (.region 13 c77_13 false) Code.ret))))))))
theorem body77 : Try.f77.body = some b77 := by kernel_rfl
noncomputable def c76_0 : Array Oper := (fun {c} (_ : rg Try.f76 0 = some c) => c) rfl
noncomputable def c76_1 : Array Oper := (fun {c} (_ : rg Try.f76 1 = some c) => c) rfl
noncomputable def c76_2 : Array Oper := (fun {c} (_ : rg Try.f76 2 = some c) => c) rfl
noncomputable def c76_3 : Array Oper := (fun {c} (_ : rg Try.f76 3 = some c) => c) rfl
noncomputable def c76_4 : Array Oper := (fun {c} (_ : rg Try.f76 4 = some c) => c) rfl
noncomputable def c76_5 : Array Oper := (fun {c} (_ : rg Try.f76 5 = some c) => c) rfl
noncomputable def c76_6 : Array Oper := (fun {c} (_ : rg Try.f76 6 = some c) => c) rfl
noncomputable def c76_7 : Array Oper := (fun {c} (_ : rg Try.f76 7 = some c) => c) rfl
noncomputable def l76_0 : Code := (.seq (.region 3 c76_3 false) (.seq (.cond (Operand.tmp 9) Code.skip (Code.exit 0)) (.seq (.block 1 (.seq (.region 4 c76_4 false) (.seq (.region 5 c76_5 false) (.cond (Operand.tmp 14) (.seq (.region 6 c76_6 false) Code.ret) Code.skip)))) (.region 7 c76_7 false))))
noncomputable def c76_8 : Array Oper := (fun {c} (_ : rg Try.f76 8 = some c) => c) rfl
noncomputable def b76 : Code := (.seq (.region 0 c76_0 false) (.seq (.region 1 c76_1 false) (.seq (.seq (.region 2 c76_2 false) (.block 0 (.loop l76_0))) (.seq (.region 8 c76_8 false) Code.ret))))
theorem body76 : Try.f76.body = some b76 := by kernel_rfl
noncomputable def c78_0 : Array Oper := (fun {c} (_ : rg Try.f78 0 = some c) => c) rfl
noncomputable def c78_1 : Array Oper := (fun {c} (_ : rg Try.f78 1 = some c) => c) rfl
noncomputable def c78_2 : Array Oper := (fun {c} (_ : rg Try.f78 2 = some c) => c) rfl
noncomputable def c78_3 : Array Oper := (fun {c} (_ : rg Try.f78 3 = some c) => c) rfl
noncomputable def c78_4 : Array Oper := (fun {c} (_ : rg Try.f78 4 = some c) => c) rfl
noncomputable def c78_5 : Array Oper := (fun {c} (_ : rg Try.f78 5 = some c) => c) rfl
noncomputable def c78_6 : Array Oper := (fun {c} (_ : rg Try.f78 6 = some c) => c) rfl
noncomputable def c78_7 : Array Oper := (fun {c} (_ : rg Try.f78 7 = some c) => c) rfl
noncomputable def c78_8 : Array Oper := (fun {c} (_ : rg Try.f78 8 = some c) => c) rfl
noncomputable def c78_9 : Array Oper := (fun {c} (_ : rg Try.f78 9 = some c) => c) rfl
noncomputable def c78_10 : Array Oper := (fun {c} (_ : rg Try.f78 10 = some c) => c) rfl
noncomputable def l78_0 : Code := (.seq (.region 2 c78_2 false) (.seq (.cond (Operand.tmp 12) Code.skip (Code.exit 0)) (.seq (.block 1 (.seq (.region 3 c78_3 false) (.seq (.seq (.region 4 c78_4 false) (.cond (Operand.tmp 19) (.seq (.region 5 c78_5 false) Code.ret) Code.skip)) (.seq (.region 6 c78_6 false) (.seq (.region 7 c78_7 false) (.seq (.region 8 c78_8 false) (.cond (Operand.tmp 28) (.seq (.region 9 c78_9 false) Code.ret) Code.skip))))))) (.region 10 c78_10 false))))
noncomputable def c78_11 : Array Oper := (fun {c} (_ : rg Try.f78 11 = some c) => c) rfl
noncomputable def c78_12 : Array Oper := (fun {c} (_ : rg Try.f78 12 = some c) => c) rfl
noncomputable def c78_13 : Array Oper := (fun {c} (_ : rg Try.f78 13 = some c) => c) rfl
noncomputable def b78 : Code := (.seq (.region 0 c78_0 false) (.seq (.seq (.region 1 c78_1 false) (.block 0 (.loop l78_0))) (.seq (.seq (.region 11 c78_11 false) (.cond (Operand.tmp 35) (.seq (.region 12 c78_12 false) Code.ret) Code.skip)) (.seq (.region 13 c78_13 false) Code.ret))))
theorem body78 : Try.f78.body = some b78 := by kernel_rfl
def cmpI (a b : Int) : Int := if a < b then -1 else if b < a then 1 else 0
def cmpL : List Int → List Int → Int
 | [], [] => 0
 | [], _ :: _ => -1
 | _ :: _, [] => 1
 | x :: xs, y :: ys => if cmpI x y = 0 then cmpL xs ys else cmpI x y
def orL : List Int → Int
 | [] => 0
 | x :: xs => if x = 0 then orL xs else x
theorem calls111 (x : Int) (w : World) : Calls Try.prog 111 #[.int .i64 x] w fun e w' => ∃ v, e = .returned v ∧ v = .bool false ∧ w' = w := by
 refine calls_of_to (tmps := #[.int .i64 x, undef, undef, undef, undef, undef]) Try.func111 body111 (by kernel_rfl) fun cs => ?_
 unfold b111
 refine To.seq (To.code fun Kc hKc => ?_)
 unfold c111_0
 go_wp2
 refine hKc _ _ (To.seq (To.code fun Kc hKc => ?_))
 unfold c111_1
 go_wp2
 exact hKc _ _ (To.ret Try.func111 rfl (results_tmp rfl _ _ _) ⟨by simp, rfl⟩)
theorem calls77 (x y : Int) (w : World) : Calls Try.prog 77 #[.int .i64 x, .int .i64 y] w fun e w' => ∃ v, e = .returned v ∧ v = .int .i64 (cmpI x y) ∧ w' = w := by
 refine calls_of_to (tmps := #[.int .i64 x, .int .i64 y, undef, undef, undef, undef, undef, undef, undef, undef, undef, undef, undef, undef, undef, undef, undef, undef, undef, undef]) Try.func77 body77 (by kernel_rfl) fun cs => ?_
 unfold b77
 refine To.seq (To.code fun Kc hKc => ?_)
 unfold c77_0
 go_wp2
 refine hKc _ _ (To.seq (To.code fun Kc hKc => ?_))
 unfold c77_1
 go_wp2_with (go_at_call 111; refine Calls.mono (calls111 x _) ?_; rintro e w' ⟨_, rfl, rfl, rfl⟩; dsimp only)
 refine hKc _ _ (To.seq (To.code fun Kc hKc => ?_))
 unfold c77_2
 go_wp2_with (go_at_call 111; refine Calls.mono (calls111 y _) ?_; rintro e w' ⟨_, rfl, rfl, rfl⟩; dsimp only)
 refine hKc _ _ (To.seq (To.seq (To.code fun Kc hKc => ?_)))
 unfold c77_3
 go_wp2
 refine hKc _ _ (To.no rfl (To.skip (To.seq (To.seq (To.code fun Kc hKc => ?_)))))
 unfold c77_7
 go_wp2
 refine hKc _ _ (To.no rfl (To.skip (To.seq (To.seq (To.code fun Kc hKc => ?_)))))
 unfold c77_9
 go_wp2
 by_cases h1 : x < y
 ·have hv : cmpI x y = -1 := by simp [cmpI, h1]
  refine hKc _ _ (To.yes (show Value.bool (decide (x < y)) = .bool true by rw [decide_eq_true h1]) (To.seq (To.code fun Kc hKc => ?_)))
  unfold c77_10
  go_wp2
  exact hKc _ _ (To.ret Try.func77 rfl (results_tmp rfl _ _ _) ⟨by rw [hv]; rfl, rfl⟩)
 refine hKc _ _ (To.no (show Value.bool (decide (x < y)) = .bool false by rw [decide_eq_false h1]) (To.skip (To.seq (To.seq (To.code fun Kc hKc => ?_)))))
 unfold c77_11
 go_wp2
 by_cases h2 : y < x
 ·have hv : cmpI x y = 1 := by simp [cmpI, h1, h2]
  refine hKc _ _ (To.yes (show Value.bool (decide (y < x)) = .bool true by rw [decide_eq_true h2]) (To.seq (To.code fun Kc hKc => ?_)))
  unfold c77_12
  go_wp2
  exact hKc _ _ (To.ret Try.func77 rfl (results_tmp rfl _ _ _) ⟨by rw [hv]; rfl, rfl⟩)
 have hv : cmpI x y = 0 := by simp [cmpI, h1, h2]
 refine hKc _ _ (To.no (show Value.bool (decide (y < x)) = .bool false by rw [decide_eq_false h2]) (To.skip (To.seq (To.code fun Kc hKc => ?_))))
 unfold c77_13
 go_wp2
 exact hKc _ _ (To.ret Try.func77 rfl (results_tmp rfl _ _ _) ⟨by rw [hv]; rfl, rfl⟩)
theorem calls76 (A : Option Addr) (n c : Nat) (l : List Int) (w : World) (hr : Kd.C (Kd.int .i64) w A n l) : Calls Try.prog 76 #[.slice A n c] w fun e w' => ∃ v, e = .returned v ∧ v = .int .i64 (orL l) ∧ w' = w := by
 refine calls_of_to (tmps := #[.slice A n c, undef, undef, undef, undef, undef, undef, undef, undef, undef, undef, undef, undef, undef, undef, undef, undef, undef]) Try.func76 body76 (by kernel_rfl) fun cs => ?_
 have hl : l.length = n := Kd.C_len hr
 have hm := Kd.C_max hr
 unfold b76
 refine To.seq (To.code fun Kc hKc => ?_)
 unfold c76_0
 go_wp2
 refine hKc _ _ (To.seq (To.code fun Kc hKc => ?_))
 unfold c76_1
 go_wp2
 refine hKc _ _ (To.seq (To.seq (To.code fun Kc hKc => ?_)))
 unfold c76_2
 go_wp2
 refine hKc _ _ (To.block (To.loop ?_))
 have key : ∀ (r i : Nat), i + r = n → orL (l.drop i) = orL l → ∀ t0 t1 t2 t4 t5 t9 jY jI jE jA jC jD jF jB, To Try.prog cs (Out Try.prog 76 fun v w' => v = .int .i64 (orL l) ∧ w' = w) ((baseN 76).at ({ tmps := #[t0, t1, t2, .int .i64 0, t4, t5, .slice A n c, .int .i64 n, .int .i64 i, t9, jY, jI, jE, jA, jC, jD, jF, jB], defers := [] } : Act) [.code l76_0, .inLoop l76_0, .inBlock 0, .code (.seq (.region 8 c76_8 false) .ret)]) w := by
  intro r
  induction r with
  | zero =>
   intro i hi ho t0 t1 t2 t4 t5 t9 jY jI jE jA jC jD jF jB
   obtain rfl : i = n := by omega
   have hlt : ¬ ((i : Int) < (i : Int)) := by omega
   refine To.seq (To.code fun Kc hKc => ?_)
   unfold c76_3
   go_wp2
   refine hKc _ _ (To.seq (To.no rfl (To.exit rfl (To.seq (To.code fun Kc hKc => ?_)))))
   unfold c76_8
   go_wp2
   refine hKc _ _ (To.ret Try.func76 rfl (results_tmp rfl _ _ _) ⟨?_, rfl⟩)
   rw [← ho, List.drop_of_length_le (by omega)]
   rfl
  | succ r ih =>
   intro i hi ho t0 t1 t2 t4 t5 t9 jY jI jE jA jC jD jF jB
   replace ih : Hid _ := ih
   have hlt : (i : Int) < (n : Int) := by omega
   refine To.seq (To.code fun Kc hKc => ?_)
   unfold c76_3
   go_wp2
   refine hKc _ _ (To.seq (To.yes rfl (To.skip (To.seq (To.block (To.seq (To.code fun Kc hKc => ?_)))))))
   obtain ⟨ad, es, hc0⟩ := Kd.at_int hr (i : Int) (by omega) hlt
   subst es
   have hget : l.drop i = rd l i :: l.drop (i + 1) := by
    rw [List.drop_eq_getElem_cons (by omega)]
    simp [rd, List.getD_eq_getElem?_getD, show i < l.length by omega]
   simp only [Int.toNat_natCast] at hc0
   generalize rd l i = x at hget hc0
   unfold c76_4
   go_wp2
   refine hKc _ _ (To.seq (To.code fun Kc hKc => ?_))
   unfold c76_5
   go_wp2
   by_cases hx : x = 0
   ·subst hx
    refine hKc _ _ (To.no rfl (To.skip (To.inBlock (To.code fun Kc hKc => ?_))))
    unfold c76_7
    go_wp2
    refine hKc _ _ (To.inLoop ?_)
    rw [show ((i : Int) + 1) = ((i + 1 : Nat) : Int) by omega]
    refine ih.out (i + 1) (by omega) ?_ _ _ _ _ _ _ _ _ _ _ _ _ _ _
    rw [← ho, hget]
    simp [orL]
   ·refine hKc _ _ (To.yes (show Value.bool (x != 0) = .bool true by simp [hx]) (To.seq (To.code fun Kc hKc => ?_)))
    unfold c76_6
    go_wp2
    refine hKc _ _ (To.ret Try.func76 rfl (results_tmp rfl _ _ _) ⟨?_, rfl⟩)
    rw [← ho, hget]
    simp [orL, hx]
 exact key n 0 (by omega) rfl _ _ _ _ _ _ _ _ _ _ _ _ _ _
theorem calls78 (A B : Option Addr) (n c m d : Nat) (xs ys : List Int) (w : World) (hr : Kd.C (Kd.int .i64) w A n xs) (hs : Kd.C (Kd.int .i64) w B m ys) : Calls Try.prog 78 #[.slice A n c, .slice B m d] w fun e w' => ∃ v, e = .returned v ∧ v = .int .i64 (cmpL xs ys) ∧ w' = w := by
 refine calls_of_to (tmps := #[.slice A n c, .slice B m d, undef, undef, undef, undef, undef, undef, undef, undef, undef, undef, undef, undef, undef, undef, undef, undef, undef, undef, undef, undef, undef, undef, undef, undef, undef, undef, undef, undef, undef, undef, undef, undef, undef, undef]) Try.func78 body78 (by kernel_rfl) fun cs => ?_
 have hl : xs.length = n := Kd.C_len hr
 have hm := Kd.C_max hr
 have hly : ys.length = m := Kd.C_len hs
 have hmy := Kd.C_max hs
 unfold b78
 refine To.seq (To.code fun Kc hKc => ?_)
 unfold c78_0
 go_wp2
 refine hKc _ _ (To.seq (To.seq (To.code fun Kc hKc => ?_)))
 unfold c78_1
 go_wp2
 refine hKc _ _ (To.block (To.loop ?_))
 have key : ∀ (r i : Nat), i + r = n → cmpL (xs.drop i) (ys.drop i) = cmpL xs ys → i ≤ m → ∀ t2 t3 t4 t5 t6 t7 t8 jE jA jC jD jF jB jM jT jG jP jZ jQ jN jR jW jH jK jU jX jS jV jJ jO jL, To Try.prog cs (Out Try.prog 78 fun v w' => v = .int .i64 (cmpL xs ys) ∧ w' = w) ((baseN 78).at ({ tmps := #[.slice A n c, .slice B m d, t2, t3, t4, t5, t6, t7, t8, .slice A n c, .int .i64 n, .int .i64 i, jE, jA, jC, jD, jF, jB, jM, jT, jG, jP, jZ, jQ, jN, jR, jW, jH, jK, jU, jX, jS, jV, jJ, jO, jL], defers := [] } : Act) [.code l78_0, .inLoop l78_0, .inBlock 0, .code (.seq (.seq (.region 11 c78_11 false) (.cond (.tmp 35) (.seq (.region 12 c78_12 false) .ret) .skip)) (.seq (.region 13 c78_13 false) .ret))]) w := by
  intro r
  induction r with
  | zero =>
   intro i hi ho him t2 t3 t4 t5 t6 t7 t8 jE jA jC jD jF jB jM jT jG jP jZ jQ jN jR jW jH jK jU jX jS jV jJ jO jL
   obtain rfl : i = n := by omega
   have hlt : ¬ ((i : Int) < (i : Int)) := by omega
   refine To.seq (To.code fun Kc hKc => ?_)
   unfold c78_2
   go_wp2
   refine hKc _ _ (To.seq (To.no rfl (To.exit rfl (To.seq (To.seq (To.code fun Kc hKc => ?_))))))
   unfold c78_11
   go_wp2
   rw [List.drop_of_length_le (show xs.length ≤ i by omega)] at ho
   by_cases hlt2 : i < m
   ·refine hKc _ _ (To.yes (show Value.bool (decide (i < m)) = .bool true by rw [decide_eq_true (by omega)]) (To.seq (To.code fun Kc hKc => ?_)))
    unfold c78_12
    go_wp2
    refine hKc _ _ (To.ret Try.func78 rfl (results_tmp rfl _ _ _) ⟨?_, rfl⟩)
    rw [← ho, List.drop_eq_getElem_cons (by omega)]
    rfl
   ·refine hKc _ _ (To.no (show Value.bool (decide (i < m)) = .bool false by rw [decide_eq_false (by omega)]) (To.skip (To.seq (To.code fun Kc hKc => ?_))))
    unfold c78_13
    go_wp2
    refine hKc _ _ (To.ret Try.func78 rfl (results_tmp rfl _ _ _) ⟨?_, rfl⟩)
    rw [← ho, List.drop_of_length_le (by omega)]
    rfl
  | succ r ih =>
   intro i hi ho him t2 t3 t4 t5 t6 t7 t8 jE jA jC jD jF jB jM jT jG jP jZ jQ jN jR jW jH jK jU jX jS jV jJ jO jL
   replace ih : Hid _ := ih
   have hlt : (i : Int) < (n : Int) := by omega
   refine To.seq (To.code fun Kc hKc => ?_)
   unfold c78_2
   go_wp2
   refine hKc _ _ (To.seq (To.yes rfl (To.skip (To.seq (To.block (To.seq (To.code fun Kc hKc => ?_)))))))
   obtain ⟨ad, es, hc0⟩ := Kd.at_int hr (i : Int) (by omega) hlt
   subst es
   have hget : xs.drop i = rd xs i :: xs.drop (i + 1) := by
    rw [List.drop_eq_getElem_cons (by omega)]
    simp [rd, List.getD_eq_getElem?_getD, show i < xs.length by omega]
   simp only [Int.toNat_natCast] at hc0
   generalize rd xs i = x at hget hc0
   unfold c78_3
   go_wp2
   refine hKc _ _ (To.seq (To.seq (To.code fun Kc hKc => ?_)))
   unfold c78_4
   go_wp2
   by_cases hge : m ≤ i
   ·refine hKc _ _ (To.yes (show Value.bool (decide (m ≤ i)) = .bool true by rw [decide_eq_true (by omega)]) (To.seq (To.code fun Kc hKc => ?_)))
    unfold c78_5
    go_wp2
    refine hKc _ _ (To.ret Try.func78 rfl (results_tmp rfl _ _ _) ⟨?_, rfl⟩)
    rw [← ho, hget, List.drop_of_length_le (show ys.length ≤ i by omega)]
    rfl
   have hlt2 : (i : Int) < (m : Int) := by omega
   refine hKc _ _ (To.no (show Value.bool (decide (m ≤ i)) = .bool false by rw [decide_eq_false (by omega)]) (To.skip (To.seq (To.code fun Kc hKc => ?_))))
   obtain ⟨ad2, es, hc1⟩ := Kd.at_int hs (i : Int) (by omega) hlt2
   subst es
   have hgety : ys.drop i = rd ys i :: ys.drop (i + 1) := by
    rw [List.drop_eq_getElem_cons (by omega)]
    simp [rd, List.getD_eq_getElem?_getD, show i < ys.length by omega]
   simp only [Int.toNat_natCast] at hc1
   generalize rd ys i = y at hgety hc1
   unfold c78_6
   go_wp2
   refine hKc _ _ (To.seq (To.code fun Kc hKc => ?_))
   unfold c78_7
   go_wp2_with (go_at_call 77; refine Calls.mono (calls77 x y _) ?_; rintro e w' ⟨_, rfl, rfl, rfl⟩; dsimp only)
   refine hKc _ _ (To.seq (To.code fun Kc hKc => ?_))
   unfold c78_8
   go_wp2
   have hcons : cmpL (xs.drop i) (ys.drop i) = if cmpI x y = 0 then cmpL (xs.drop (i + 1)) (ys.drop (i + 1)) else cmpI x y := by rw [hget, hgety]; rfl
   generalize cmpI x y = z at hcons ⊢
   by_cases hx : z = 0
   ·subst hx
    refine hKc _ _ (To.no rfl (To.skip (To.inBlock (To.code fun Kc hKc => ?_))))
    unfold c78_10
    go_wp2
    refine hKc _ _ (To.inLoop ?_)
    rw [show ((i : Int) + 1) = ((i + 1 : Nat) : Int) by omega]
    refine ih.out (i + 1) (by omega) ?_ (by omega) _ _ _ _ _ _ _ _ _ _ _ _ _ _ _ _ _ _ _ _ _ _ _ _ _ _ _ _ _ _ _
    rw [← ho, hcons]
    simp
   ·refine hKc _ _ (To.yes (show Value.bool (z != 0) = .bool true by simp [hx]) (To.seq (To.code fun Kc hKc => ?_)))
    unfold c78_9
    go_wp2
    refine hKc _ _ (To.ret Try.func78 rfl (results_tmp rfl _ _ _) ⟨?_, rfl⟩)
    rw [← ho, hcons, if_neg hx]
    rfl
 exact key n 0 (by omega) rfl (by omega) _ _ _ _ _ _ _ _ _ _ _ _ _ _ _ _ _ _ _ _ _ _ _ _ _ _ _ _ _ _ _
end Go.Ov
namespace Go.Ov
open Go.Conc
theorem To.mono {P : Program} {cs : List Frame} {X Y : Frame → World → Prop} {fr : Frame} {w : World} (h : To P cs X fr w) (hXY : ∀ fr w, X fr w → Y fr w) : To P cs Y fr w := by
 obtain ⟨fr', w', hx, hs⟩ := h
 exact ⟨fr', w', hXY _ _ hx, hs⟩
def orders (md : Region.Mode) (ops : Array Oper) : Nat → Array Bool → List (List Nat)
 | 0, _ => [[]]
 | n + 1, listed => match Region.ready md ops listed with
  | [] => [[]]
  | rs => rs.flatMap fun i => (orders md ops n (listed.setIfInBounds i true)).map (i :: ·)
theorem linearise_mem (md : Region.Mode) (ops : Array Oper) : ∀ (n t : Nat) (listed : Array Bool), Region.linearise.go md ops n t listed [] ∈ orders md ops n listed := by
 intro n
 induction n with
 | zero => intro t listed; simp [Region.linearise.go, orders]
 | succ n ih =>
  intro t listed
  simp only [Region.linearise.go, orders]
  change (match (Region.ready md ops listed)[t % (Region.ready md ops listed).length]? with
   | some i => Region.linearise.go md ops n (t / (Region.ready md ops listed).length) (listed.setIfInBounds i true) [i]
   | none => [].reverse) ∈ _
  cases hi : (Region.ready md ops listed)[t % (Region.ready md ops listed).length]? with
  | none =>
   have hnil : Region.ready md ops listed = [] := by
    cases hr : Region.ready md ops listed with
    | nil => rfl
    | cons x xs =>
     rw [hr] at hi
     have hlt : t % (x :: xs).length < (x :: xs).length := Nat.mod_lt _ (by simp)
     simp at hi
     simp at hlt
     omega
   rw [hnil]
   simp
  | some i =>
   have hm := List.mem_of_getElem? hi
   cases hr : Region.ready md ops listed with
   | nil => rw [hr] at hm; cases hm
   | cons x xs =>
    rw [hr] at hm
    simp only []
    rw [linearise_go_acc, List.reverse_singleton, List.singleton_append]
    exact List.mem_flatMap.2 ⟨i, hm, List.mem_map.2 ⟨_, ih _ _, rfl⟩⟩
section
variable {R : Row} {cs : List Frame} {w0 : World} {b : Frame} {a : Act} {k : List Item} {ops : Array Oper}
theorem Row.drawn {id : Nat} {os : List (List Nat)} (ok : OkFrame R.P (b.at a (.code (.region id ops true) :: k))) (hb : b.kind = .normal) (hp : PlainW w0) (hm : R.P.follows .mixedOrders = true)
  (ho : orders .any ops ops.size (Array.replicate ops.size false) = os) (h : ∀ l ∈ os, OkFrame R.P (b.at a (.inRegion ops l :: k)) → R.Runs (b.at a (.inRegion ops l :: k)) cs w0) : R.Runs (b.at a (.code (.region id ops true) :: k)) cs w0 := by
 obtain ⟨ha, hx⟩ := okFrame_of_at ok
 have hc : (ops.all fun o => okOp R.P o.op) = true := hx _ (.head _)
 have hk : ∀ x ∈ k, OkItem R.P x := fun x h => hx x (.tail _ h)
 refine Row.Runs.go (new := []) ok (by simp) hb hp (.inr rfl) fun τ d => ⟨b.at a (.inRegion ops (Region.schedule (R.P.follows .mixedOrders) ops (τ d (.order b.fn id))) :: k), [], w0.on τ (d + 1), #[], fun cs => ?_, fun _ _ _ => frame_on ?_⟩
 ·simp [stepG, stepG.exec, Frame.at, G, choose, Sem.run, Question.forced, Question.cut, World.on]
 ·refine h _ ?_ (okFrame_at hb ha (okItems_cons (okItem_region hc) hk))
  subst ho
  simp only [Region.schedule, hm, Bool.true_or, if_true]
  exact linearise_mem _ _ _ _ _
theorem Row.loneOp {i : Nat} {rest : List Nat} {o : Oper} {N : Value → World → Prop} (ok : OkFrame R.P (b.at a (.inRegion ops (i :: rest) :: k))) (hb : b.kind = .normal) (hp : PlainW w0) (ho : ops[i]? = some o) (hg : o.guard = none)
  (h : ∀ (τ : Tape) (d : Nat) (K : Act → World → Prop), (∀ v w', N v w' → K (a.put o.dst v) w') → o.wp R.P a (w0.on τ d) K (Ends2 K fun _ _ => False))
  (hN : ∀ v w', N v w' → PlainW w' → OkFrame R.P (b.at (a.put o.dst v) (.inRegion ops rest :: k)) → R.Runs (b.at (a.put o.dst v) (.inRegion ops rest :: k)) cs w') : R.Runs (b.at a (.inRegion ops (i :: rest) :: k)) cs w0 := by
 refine Row.to (X := At b (.inRegion ops rest :: k) fun a' w' => ∃ v, a' = a.put o.dst v ∧ N v w') ok hb hp (fun τ d => ?_) ?_
 ·exact To.op ho hg fun K hK => h τ d K fun v w' hn => hK _ _ (To.here ⟨_, rfl, v, rfl, hn⟩)
 ·rintro fr w1 ⟨a', rfl, v, rfl, hn⟩ ok1 _ hp1
  exact hN v w1 hn hp1 ok1
end
end Go.Ov
namespace Go.Ov
open Go.Conc Go.Proofs Go.RowKit Go.Maps Go.Proofs.YtfgedbakbljgfaaW.PrintWords Go.Proofs.YtfgedbakbljgfaaW.PrintLast Go.Proofs.YtfgedbakbljgfaaW.PrintMore Go.Proofs.Ytfgedbakbljgfaa.PBoldSheets
noncomputable def c75_0 : Array Oper := (fun {c} (_ : rg Try.f75 0 = some c) => c) rfl
noncomputable def c75_1 : Array Oper := (fun {c} (_ : rg Try.f75 1 = some c) => c) rfl
noncomputable def b75 : Code := (.seq (.region 0 c75_0 false) (.seq (.region 1 c75_1 true) Code.ret))
theorem body75 : Try.f75.body = some b75 := by kernel_rfl
noncomputable def c80_0 : Array Oper := (fun {c} (_ : rg Try.f80 0 = some c) => c) rfl
noncomputable def c80_1 : Array Oper := (fun {c} (_ : rg Try.f80 1 = some c) => c) rfl
noncomputable def c80_2 : Array Oper := (fun {c} (_ : rg Try.f80 2 = some c) => c) rfl
noncomputable def b80 : Code := (.seq (.region 0 c80_0 false) (.seq (.region 1 c80_1 true) (.cond (Operand.tmp 21) (.region 2 c80_2 false) Code.skip)))
theorem body80 : Try.f80.body = some b80 := by kernel_rfl
structure Hand where
 cards : List Int
 lines : Int
 price : Int
abbrev handV (h : Hand) (A : Option Addr) (c : Nat) : Array Value := #[.slice A h.cards.length c, .int .i64 h.lines, .int .i64 h.price]
def ordFill (x y : Hand) : Int := orL [cmpI y.price x.price, cmpI y.lines x.lines, cmpL x.cards y.cards]
theorem kd_block {l : List Int} {g : Nat} {w : World} (h : w.heap[g]? = some (.cells (nums .i64 l).toArray 3 (0, 0))) (hl : l.length ≤ 1000) : Kd.C (Kd.int .i64) w (some ⟨g, 0, none⟩) l.length l := by
 refine ⟨rfl, by omega, fun _ => ⟨_, rfl, fun j p hp => ⟨[.int .i64 p], rfl, rfl, fun i u hu => ?_⟩⟩⟩
 have hi : i = 0 := by
  have := (List.getElem?_eq_some_iff.1 hu).1
  simp at this
  exact this
 subst hi
 have e : u = .int .i64 p := by simpa using hu.symm
 subst e
 show w.cell? ((⟨g, 0, none⟩ : Addr).add (j * 1 + 0)) = _
 rw [Nat.mul_one, Nat.add_zero, add_plain, blk_cell h]
 simp [nums, hp]
theorem kd_three (w : World) (a b c : Int) : Kd.C (Kd.int .i64) (w.alloc (.cells #[.int .i64 a, .int .i64 b, .int .i64 c] 3)) (some ⟨w.heap.size, 0, none⟩) 3 [a, b, c] := kd_block (l := [a, b, c]) (heap_alloc_new w _) (by simp)
theorem calls75 (x y : Hand) (A B : Option Addr) (c d : Nat) (w : World) (hx : Kd.C (Kd.int .i64) w A x.cards.length x.cards) (hy : Kd.C (Kd.int .i64) w B y.cards.length y.cards) :
  Calls Try.prog 75 #[.agg (handV x A c), .agg (handV y B d)] w fun e w' => ∃ v, e = .returned v ∧ v = .int .i64 (ordFill x y) ∧ Below w.heap.size w w' := by
 refine calls_of_to (tmps := #[.agg (handV x A c), .agg (handV y B d), undef, undef, undef, undef, undef, undef, undef, undef, undef, undef, undef, undef, undef, undef, undef, undef, undef, undef, undef, undef]) Try.func75 body75 (by kernel_rfl) fun cs => ?_
 unfold b75
 refine To.seq (To.code fun Kc hKc => ?_)
 unfold c75_0
 go_wp2
 have hbox := heap_alloc_new w (.cells (handV x A c) 110)
 have hbox := (Below.heap_alloc (w.alloc (.cells (handV x A c) 110)) (.cells (handV y B d) 110) w.heap.size (by simp)).trans hbox
 have hbox2 := heap_alloc_new (w.alloc (.cells (handV x A c) 110)) (.cells (handV y B d) 110)
 have hs : (w.alloc (.cells (handV x A c) 110)).heap.size = w.heap.size + 1 := by simp
 rw [hs] at hbox2
 have hb : Below w.heap.size w ((w.alloc (.cells (handV x A c) 110)).alloc (.cells (handV y B d) 110)) := ((Below.refl _ _).alloc (Nat.le_refl _) _).alloc (by simp) _
 generalize (w.alloc (.cells (handV x A c) 110)).alloc (.cells (handV y B d) 110) = W at hbox hbox2 hb ⊢
 refine hKc _ _ (To.seq (To.code fun Kc hKc => ?_))
 have f0 : ∀ W', Below W.heap.size W W' → W'.cell? ⟨w.heap.size, 0, none⟩ = some (.slice A x.cards.length c) := fun W' h => (blk_cell ((h.block _ (blk_lt hbox)).trans hbox) 0)
 have f1 : ∀ W', Below W.heap.size W W' → W'.cell? ⟨w.heap.size, 1, none⟩ = some (.int .i64 x.lines) := fun W' h => (blk_cell ((h.block _ (blk_lt hbox)).trans hbox) 1)
 have f2 : ∀ W', Below W.heap.size W W' → W'.cell? ⟨w.heap.size, 2, none⟩ = some (.int .i64 x.price) := fun W' h => (blk_cell ((h.block _ (blk_lt hbox)).trans hbox) 2)
 have g0 : ∀ W', Below W.heap.size W W' → W'.cell? ⟨w.heap.size + 1, 0, none⟩ = some (.slice B y.cards.length d) := fun W' h => (blk_cell ((h.block _ (blk_lt hbox2)).trans hbox2) 0)
 have g1 : ∀ W', Below W.heap.size W W' → W'.cell? ⟨w.heap.size + 1, 1, none⟩ = some (.int .i64 y.lines) := fun W' h => (blk_cell ((h.block _ (blk_lt hbox2)).trans hbox2) 1)
 have g2 : ∀ W', Below W.heap.size W W' → W'.cell? ⟨w.heap.size + 1, 2, none⟩ = some (.int .i64 y.price) := fun W' h => (blk_cell ((h.block _ (blk_lt hbox2)).trans hbox2) 2)
 have hxC : ∀ W', Below W.heap.size W W' → Kd.C (Kd.int .i64) W' A x.cards.length x.cards := fun W' h => Kd.C_below hx (hb.trans (h.mono hb.size))
 have hyC : ∀ W', Below W.heap.size W W' → Kd.C (Kd.int .i64) W' B y.cards.length y.cards := fun W' h => Kd.C_below hy (hb.trans (h.mono hb.size))
 have hfin : ∀ W', Below W.heap.size W W' → Below w.heap.size w W' := fun W' h => hb.trans (h.mono hb.size)
 have hrefl : Below W.heap.size W W := Below.refl _ _
 clear hbox hbox2 hb hx hy
 unfold c75_1
 dsimp only
 go_region_held3 (fun w' => Below W.heap.size W w') (first | exact Below.drew (by assumption) | exact Below.alloc (by assumption) (Below.size (by assumption)) _ | assumption) (first | (go_at_call 77; refine Calls.mono (calls77 _ _ _) ?_; rintro e w' ⟨_, rfl, rfl, rfl⟩) | (go_at_call 78; refine Calls.mono (calls78 _ _ _ _ _ _ _ _ _ (hxC _ (by assumption)) (hyC _ (by assumption))) ?_; rintro e w' ⟨_, rfl, rfl, rfl⟩) | (go_at_call 76; refine Calls.mono (calls76 _ 3 3 [cmpI y.price x.price, cmpI y.lines x.lines, cmpL x.cards y.cards] _ (kd_three _ _ _ _)) ?_; rintro e w' ⟨_, rfl, rfl, rfl⟩))
 exact hKc _ _ (To.ret Try.func75 rfl (results_tmp rfl _ _ _) ⟨rfl, hfin _ (by assumption)⟩)
abbrev bestV (o : Option (Hand × Option Addr × Nat)) (fv : Value) : Array Value :=
 match o with
 | none => #[.slice none 0 0, .int .i64 0, .int .i64 0, .bool false, fv]
 | some (h, A, c) => #[.slice A h.cards.length c, .int .i64 h.lines, .int .i64 h.price, .bool true, fv]
def BestC (w : World) (o : Option (Hand × Option Addr × Nat)) : Prop := ∀ h A c, o = some (h, A, c) → Kd.C (Kd.int .i64) w A h.cards.length h.cards
def better (ord : Hand → Hand → Int) (x : Hand) : Option (Hand × Option Addr × Nat) → Bool
 | none => true
 | some (h, _, _) => decide (ord x h < 0)
theorem grown_trans' {w w1 w2 : World} {B : Nat} (h : w.grownBy w1 (some B)) (k : w1.grownBy w2 (some B)) : w.grownBy w2 (some B) :=
 ⟨k.os.trans h.os, k.tape.trans h.tape, k.output.trans h.output, Nat.le_trans h.size k.size, fun i hi hne => (k.block i (Nat.lt_of_lt_of_le hi h.size) hne).trans (h.block i hi hne)⟩
theorem tail80 {cs : List Frame} (a0 a1 a2 a3 a4 : Value) (x : Hand) (A : Option Addr) (c : Nat) (W : World) (B g : Nat) (hB : W.heap[B]? = some (.cells #[a0, a1, a2, a3, a4] 114 (0, 0))) (hg : W.heap[g]? = some (.cells (handV x A c) 110 (0, 0))) t1 t2 t4 t5 t6 t7 t8 t9 jR jE jO jC jI jN jQ jD jG jM jA jJ jS jK jH jL jP jB jF :
  To Try.prog cs (Out Try.prog 80 fun v w' => W.grownBy w' (some B) ∧ w'.heap[B]? = some (.cells #[.slice A x.cards.length c, .int .i64 x.lines, .int .i64 x.price, .bool true, a4] 114 (0, 0))) ((baseN 80).at ({ tmps := #[ptr B, t1, t2, ptr g, t4, t5, t6, t7, t8, t9, jR, jE, jO, jC, jI, jN, jQ, jD, jG, jM, jA, jJ, jS, jK, jH, jL, jP, jB, jF], defers := [] } : Act) [.code (.region 2 c80_2 false)]) W := by
 have e0 : W.cell? ⟨g, 0, none⟩ = some (.slice A x.cards.length c) := blk_cell hg 0
 have e1 : W.cell? ⟨g, 1, none⟩ = some (.int .i64 x.lines) := blk_cell hg 1
 have e2 : W.cell? ⟨g, 2, none⟩ = some (.int .i64 x.price) := blk_cell hg 2
 have b0 : W.cell? ⟨B, 0, none⟩ = some a0 := blk_cell hB 0
 have b1 : W.cell? ⟨B, 1, none⟩ = some a1 := blk_cell hB 1
 have b2 : W.cell? ⟨B, 2, none⟩ = some a2 := blk_cell hB 2
 have b3 : W.cell? ⟨B, 3, none⟩ = some a3 := blk_cell hB 3
 have c0 := blk_frozen hB 0
 have c1 := blk_frozen hB 1
 have c2 := blk_frozen hB 2
 have c3 := blk_frozen hB 3
 have h1 := blk_set (blk_set (blk_set (blk_set hB 0 (.slice A x.cards.length c)) 1 (.int .i64 x.lines)) 2 (.int .i64 x.price)) 3 (.bool true)
 refine To.code fun Kc hKc => ?_
 unfold c80_2
 go_wp2
 refine hKc _ _ (To.fall (v := .tuple #[]) Try.func80 rfl (results_none rfl _ _ _) ⟨?_, h1⟩)
 exact grown_trans' (grown_trans' (grown_trans' (grown_set W ⟨B, 0, none⟩ _) (grown_set _ ⟨B, 1, none⟩ _)) (grown_set _ ⟨B, 2, none⟩ _)) (grown_set _ ⟨B, 3, none⟩ _)
theorem grown_below {w w1 : World} {B : Nat} (h : Below w.heap.size w w1) : w.grownBy w1 (some B) := ⟨h.os, h.tape, h.output, h.size, fun i hi _ => h.block i hi⟩
theorem calls80 (o : Option (Hand × Option Addr × Nat)) (x : Hand) (A : Option Addr) (c : Nat) (w : World) (B : Nat) (hB : w.heap[B]? = some (.cells (bestV o (.func (.func 75) #[] #[])) 114 (0, 0))) (ho : BestC w o) (hx : Kd.C (Kd.int .i64) w A x.cards.length x.cards) :
  Calls Try.prog 80 #[ptr B, .agg (handV x A c)] w fun e w' => ∃ v, e = .returned v ∧ w.grownBy w' (some B) ∧ w'.heap[B]? = some (.cells (bestV (if better ordFill x o then some (x, A, c) else o) (.func (.func 75) #[] #[])) 114 (0, 0)) := by
 refine calls_of_to (tmps := #[ptr B, .agg (handV x A c), undef, undef, undef, undef, undef, undef, undef, undef, undef, undef, undef, undef, undef, undef, undef, undef, undef, undef, undef, undef, undef, undef, undef, undef, undef, undef, undef]) Try.func80 body80 (by kernel_rfl) fun cs => ?_
 unfold b80
 refine To.seq (To.code fun Kc hKc => ?_)
 unfold c80_0
 go_wp2
 have hbox := heap_alloc_new w (.cells (handV x A c) 110)
 replace hB := (Below.heap_alloc w (.cells (handV x A c) 110) B (blk_lt hB)).trans hB
 have hb : Below w.heap.size w (w.alloc (.cells (handV x A c) 110)) := (Below.refl _ _).alloc (Nat.le_refl _) _
 generalize w.alloc (.cells (handV x A c) 110) = W at hbox hB hb ⊢
 refine hKc _ _ (To.seq (To.code fun Kc hKc => ?_))
 have hfin : ∀ W', Below W.heap.size W W' → Below w.heap.size w W' := fun W' h => hb.trans (h.mono hb.size)
 have hrefl : Below W.heap.size W W := Below.refl _ _
 have e0 : ∀ W', Below W.heap.size W W' → W'.cell? ⟨w.heap.size, 0, none⟩ = some (.slice A x.cards.length c) := fun W' h => (blk_cell ((h.block _ (blk_lt hbox)).trans hbox) 0)
 have e1 : ∀ W', Below W.heap.size W W' → W'.cell? ⟨w.heap.size, 1, none⟩ = some (.int .i64 x.lines) := fun W' h => (blk_cell ((h.block _ (blk_lt hbox)).trans hbox) 1)
 have e2 : ∀ W', Below W.heap.size W W' → W'.cell? ⟨w.heap.size, 2, none⟩ = some (.int .i64 x.price) := fun W' h => (blk_cell ((h.block _ (blk_lt hbox)).trans hbox) 2)
 have hxC : ∀ W', Below W.heap.size W W' → Kd.C (Kd.int .i64) W' A x.cards.length x.cards := fun W' h => Kd.C_below hx (hb.trans (h.mono hb.size))
 cases o with
 | none =>
  have b3 : ∀ W', Below W.heap.size W W' → W'.cell? ⟨B, 3, none⟩ = some (.bool false) := fun W' h => (blk_cell ((h.block _ (blk_lt hB)).trans hB) 3)
  unfold c80_1
  refine wp_region_held_drew (S := fun w' => Below W.heap.size W w') (by kernel_rfl) (Below.drew hrefl) fun hS => ?_
  refine tk 0 ⟨some 4, .move (.tmp 0), 145, "fill.go:20", #[], none⟩ (ptr B) (.inl ⟨by rfl, fun w hw => by go_simp⟩) hS ?_
  try simp only [pt]
  refine tk 1 ⟨some 5, .nilCheck (.tmp 4), 0, "fill.go:20", #[⟨0, .data⟩], none⟩ (ptr B) (.inl ⟨by rfl, fun w hw => by go_simp⟩) hS ?_
  try simp only [pt]
  refine tk 2 ⟨some 6, .fieldAddr 114 (.tmp 5) 1, 0, "fill.go:20", #[⟨1, .data⟩], none⟩ (.pointer (some ⟨B, 3, none⟩)) (.inl ⟨by rfl, fun w hw => by go_simp⟩) hS ?_
  try simp only [pt]
  refine tk 3 ⟨some 7, .load 4 (.tmp 6), 4, "fill.go:20", #[⟨2, .data⟩], none⟩ (.bool false) (.inl ⟨by rfl, fun w hw => by go_simp⟩) hS ?_
  try simp only [pt]
  refine tk 4 ⟨some 8, .unOp .not 4 (.tmp 7), 4, "fill.go:20", #[⟨3, .data⟩], none⟩ (.bool true) (.inl ⟨by rfl, fun w hw => by go_simp⟩) hS ?_
  try simp only [pt]
  refine tk 5 ⟨some 9, .move (.tmp 8), 4, "fill.go:20", #[⟨4, .data⟩], none⟩ (.bool true) (.inl ⟨by rfl, fun w hw => by go_simp⟩) hS ?_
  try simp only [pt]
  refine tk 6 ⟨some 10, .move (.tmp 0), 145, "fill.go:20", #[⟨5, .guard⟩], some (5, false)⟩ undef (.inr ⟨by rfl, rfl⟩) hS ?_
  try simp only [pt]
  refine tk 7 ⟨some 11, .nilCheck (.tmp 10), 0, "fill.go:20", #[⟨6, .data⟩, ⟨5, .guard⟩], some (5, false)⟩ undef (.inr ⟨by rfl, rfl⟩) hS ?_
  try simp only [pt]
  refine tk 8 ⟨some 12, .fieldAddr 114 (.tmp 11) 2, 0, "fill.go:20", #[⟨7, .data⟩, ⟨5, .guard⟩], some (5, false)⟩ undef (.inr ⟨by rfl, rfl⟩) hS ?_
  try simp only [pt]
  refine tk 9 ⟨some 13, .load 112 (.tmp 12), 112, "fill.go:20", #[⟨8, .data⟩, ⟨5, .guard⟩], some (5, false)⟩ undef (.inr ⟨by rfl, rfl⟩) hS ?_
  try simp only [pt]
  refine tk 10 ⟨some 14, .load 110 (.tmp 3), 110, "fill.go:20", #[⟨5, .guard⟩], some (5, false)⟩ undef (.inr ⟨by rfl, rfl⟩) hS ?_
  try simp only [pt]
  refine tk 11 ⟨some 15, .move (.tmp 0), 145, "fill.go:20", #[⟨5, .guard⟩], some (5, false)⟩ undef (.inr ⟨by rfl, rfl⟩) hS ?_
  try simp only [pt]
  refine tk 12 ⟨some 16, .nilCheck (.tmp 15), 0, "fill.go:20", #[⟨11, .data⟩, ⟨5, .guard⟩], some (5, false)⟩ undef (.inr ⟨by rfl, rfl⟩) hS ?_
  try simp only [pt]
  refine tk 13 ⟨some 17, .fieldAddr 114 (.tmp 16) 0, 0, "fill.go:20", #[⟨12, .data⟩, ⟨5, .guard⟩], some (5, false)⟩ undef (.inr ⟨by rfl, rfl⟩) hS ?_
  try simp only [pt]
  refine tk 14 ⟨some 18, .load 110 (.tmp 17), 110, "fill.go:20", #[⟨13, .data⟩, ⟨5, .guard⟩], some (5, false)⟩ undef (.inr ⟨by rfl, rfl⟩) hS ?_
  try simp only [pt]
  refine tk 15 ⟨some 19, .call ⟨.value (.tmp 13), #[.tmp 14, .tmp 18], #[110, 110]⟩, 3, "fill.go:20", #[⟨9, .data⟩, ⟨10, .data⟩, ⟨14, .data⟩, ⟨5, .chain⟩, ⟨5, .guard⟩], some (5, false)⟩ undef (.inr ⟨by rfl, rfl⟩) hS ?_
  try simp only [pt]
  refine tk 16 ⟨some 20, .binOp .lss 3 (.tmp 19) (.const (.int .i64 0)) 3, 4, "fill.go:20", #[⟨15, .data⟩, ⟨5, .guard⟩], some (5, false)⟩ undef (.inr ⟨by rfl, rfl⟩) hS ?_
  try simp only [pt]
  refine tk 17 ⟨some 21, .pick (.tmp 9) (.const (.bool true)) (.tmp 20), 4, "fill.go:20", #[⟨5, .data⟩, ⟨16, .data⟩], none⟩ (.bool true) (.inl ⟨by rfl, fun w hw => by go_simp⟩) hS ?_
  try simp only [pt]
  refine wpAnyH_done (by kernel_rfl) ?_ _
  refine hKc _ _ (To.yes rfl ((tail80 _ _ _ _ _ x A c _ B w.heap.size ((hS.block _ (blk_lt hB)).trans hB) ((hS.block _ (blk_lt hbox)).trans hbox) _ _ _ _ _ _ _ _ _ _ _ _ _ _ _ _ _ _ _ _ _ _ _ _ _ _ _).mono fun fr w' h => ?_))
  obtain ⟨q1, v, q2, q3, q4⟩ := h
  exact ⟨q1, v, q2, grown_trans' (grown_below (hfin _ hS)) q3, q4⟩
 | some q =>
  obtain ⟨y, A2, c2⟩ := q
  have hyC : ∀ W', Below W.heap.size W W' → Kd.C (Kd.int .i64) W' A2 y.cards.length y.cards := fun W' h => Kd.C_below (ho _ _ _ rfl) (hb.trans (h.mono hb.size))
  have b0 : ∀ W', Below W.heap.size W W' → W'.cell? ⟨B, 0, none⟩ = some (.slice A2 y.cards.length c2) := fun W' h => (blk_cell ((h.block _ (blk_lt hB)).trans hB) 0)
  have b1 : ∀ W', Below W.heap.size W W' → W'.cell? ⟨B, 1, none⟩ = some (.int .i64 y.lines) := fun W' h => (blk_cell ((h.block _ (blk_lt hB)).trans hB) 1)
  have b2 : ∀ W', Below W.heap.size W W' → W'.cell? ⟨B, 2, none⟩ = some (.int .i64 y.price) := fun W' h => (blk_cell ((h.block _ (blk_lt hB)).trans hB) 2)
  have b3 : ∀ W', Below W.heap.size W W' → W'.cell? ⟨B, 3, none⟩ = some (.bool true) := fun W' h => (blk_cell ((h.block _ (blk_lt hB)).trans hB) 3)
  have b4 : ∀ W', Below W.heap.size W W' → W'.cell? ⟨B, 4, none⟩ = some (.func (.func 75) #[] #[]) := fun W' h => (blk_cell ((h.block _ (blk_lt hB)).trans hB) 4)
  unfold c80_1
  dsimp only
  go_region_held3 (fun w' => Below W.heap.size W w') (first | exact Below.drew (by assumption) | assumption) (first | (go_at_call 75; refine Calls.mono (calls75 x y A A2 c c2 _ (hxC _ (by assumption)) (hyC _ (by assumption))) ?_; rintro e w' ⟨_, rfl, rfl, hb'⟩; replace hb' := below_then ‹Below W.heap.size W _› (Below.size ‹Below W.heap.size W _›) hb'))
  have hS := ‹Below W.heap.size W _›
  by_cases hlt : ordFill x y < 0
  ·refine hKc _ _ (To.yes (show Value.bool (decide (ordFill x y < 0)) = .bool true by rw [decide_eq_true hlt]) ((tail80 _ _ _ _ _ x A c _ B w.heap.size ((hS.block _ (blk_lt hB)).trans hB) ((hS.block _ (blk_lt hbox)).trans hbox) _ _ _ _ _ _ _ _ _ _ _ _ _ _ _ _ _ _ _ _ _ _ _ _ _ _ _).mono fun fr w' h => ?_))
   obtain ⟨q1, v, q2, q3, q4⟩ := h
   refine ⟨q1, v, q2, grown_trans' (grown_below (hfin _ hS)) q3, ?_⟩
   rw [if_pos (by simp [better, hlt])]
   exact q4
  ·refine hKc _ _ (To.no (show Value.bool (decide (ordFill x y < 0)) = .bool false by rw [decide_eq_false hlt]) (To.skip (To.fall (v := .tuple #[]) Try.func80 rfl (results_none rfl _ _ _) ⟨grown_below (hfin _ hS), ?_⟩)))
   rw [if_neg (by simp [better, hlt])]
   exact (hS.block _ (blk_lt hB)).trans hB
end Go.Ov
namespace Go.Ov
open Go.Conc Go.Proofs Go.RowKit Go.Maps Go.Proofs.YtfgedbakbljgfaaW.PrintWords
def soft : Obj → Obj
 | .loop _ => .coro none
 | .pending _ _ => .coro none
 | o => o
def bareW (W : World) : World := { W with heap := W.heap.map soft }
theorem bareW_get (W : World) (b : Nat) : (bareW W).heap[b]? = (W.heap[b]?).map soft := by simp [bareW]
theorem soft_eq (o : Obj) : (Bad o ∧ soft o = .coro none) ∨ (¬ Bad o ∧ soft o = o) := by cases o <;> simp [Bad, soft]
theorem plain_bareW (W : World) : PlainW (bareW W) := by
 intro b o h
 rw [bareW_get] at h
 obtain ⟨x, _, rfl⟩ := Option.map_eq_some_iff.1 h
 rcases soft_eq x with ⟨_, e⟩ | ⟨h2, e⟩
 ·rw [e]; exact id
 ·rw [e]; exact h2
theorem over_bareW (W : World) : Over (fun b => ∃ o, W.heap[b]? = some o ∧ Bad o) W (bareW W) := by
 refine ⟨by simp [bareW], rfl, rfl, fun b hb => ?_, fun b hb => ?_⟩
 ·rw [bareW_get]
  cases h : W.heap[b]? with
  | none => rfl
  | some o =>
   rcases soft_eq o with ⟨h2, _⟩ | ⟨_, e⟩
   ·exact absurd ⟨o, h, h2⟩ hb
   ·rw [Option.map_some, e]
 ·obtain ⟨o, h, h2⟩ := hb
  refine .inl ⟨?_, o, h, h2⟩
  rw [bareW_get, h, Option.map_some]
  rcases soft_eq o with ⟨_, e⟩ | ⟨h3, _⟩
  ·rw [e]
  ·exact absurd h2 h3
theorem kept_of {W w w1 : World} {Z : Nat → Prop} (hf : Fr (bareW W) w1) (ho : Over Z w w1) (hk : Keeps W (bareW W) w w1) : Fr W w := by
 have hs : (bareW W).heap.size = W.heap.size := by simp [bareW]
 refine ⟨ho.os.trans hf.os, ho.output.trans hf.output, ?_, fun k hlt => ?_⟩
 ·rw [ho.size, ← hs]; exact hf.size
 have h1 := hf.same k (by omega)
 rcases ho.at' k with e | ⟨_, e, _⟩
 ·by_cases hc : w1.heap[k]? = some (.coro none)
  ·exact (hk k hc).2
  ·rw [e, h1, bareW_get]
   rw [h1, bareW_get] at hc
   cases h : W.heap[k]? with
   | none => rfl
   | some o =>
    rw [h, Option.map_some] at hc
    rcases soft_eq o with ⟨_, e2⟩ | ⟨_, e2⟩
    ·exact absurd (by rw [e2]) hc
    ·rw [Option.map_some, e2]
 ·exact (hk k e).2
theorem Fr.tape {W w : World} (h : Fr W w) : Below W.heap.size W { w with tape := W.tape } := ⟨h.os, rfl, h.output, h.size, h.same⟩
theorem Fr.kept {W w : World} (h : Fr W w) (may : MemPlace → Prop) : W.keptBut w may := by
 refine ⟨h.os, h.output, fun i hi => ?_⟩
 rw [h.same i hi]
 split <;> simp_all
theorem runs_good {W : World} {f : FuncId} {args : Array Value} {Post : Value → World → Prop} (hi : Try.prog.inits.idxOf? f = none) (h : ∀ R : Row, R.P = Try.prog → R.Calls f args (bareW W) fun v w => v = .bool true ∧ Fr (bareW W) w) (hpost : ∀ w', Fr W w' → Post (.bool true) w') :
  ∃ M last o w' t', runNT Try.prog (M + 1) (solo (G (Frame.enter Try.prog f args .normal) []) W) #[] = (.ended o w', t') ∧ runN Try.prog M (solo (G (Frame.enter Try.prog f args .normal) []) W) = .next last ∧ step Try.prog last = .ended o w' ∧ Conc.Good Try.prog Post last o w' t' :=
 Row.fin (R := ⟨Try.prog, bare, okProg, Post, W, bareW W⟩) (h _ rfl) (plain_bareW W) (over_bareW W) hi fun v w1 hv Z w ho hk => by
  obtain ⟨rfl, hf⟩ := hv
  exact hpost w (kept_of hf ho hk)
theorem cell_bare {W : World} {a : Addr} {v : Value} (h : W.cell? a = some v) : (bareW W).cell? a = some v := by
 unfold World.cell? at h ⊢
 rw [bareW_get]
 cases hb : W.heap[a.block]? with
 | none => rw [hb] at h; cases h
 | some o =>
  rw [hb] at h
  cases o <;> first | exact h | cases h
theorem C_bare {α : Type} {d : Kd α} {W : World} {A : Option Addr} {n : Nat} {l : List α} (hK : ∀ x cs, d.K W x cs → d.K (bareW W) x cs) (h : d.C W A n l) : d.C (bareW W) A n l := by
 obtain ⟨h1, h2, h3⟩ := h
 refine ⟨h1, h2, fun hn => ?_⟩
 obtain ⟨ad, e, hc⟩ := h3 hn
 refine ⟨ad, e, fun j p hp => ?_⟩
 obtain ⟨c, k1, k2, k3⟩ := hc j p hp
 exact ⟨c, k1, hK _ _ k2, fun i u hu => cell_bare (k3 i u hu)⟩
def IsRow (k : IntKind) (w : World) (a : Option Addr) (len cap : Nat) (zs : List Int) : Prop :=
 (a = none ∧ len = 0 ∧ cap = 0 ∧ zs = []) ∨
 ∃ x, a = some x ∧ len ≤ cap ∧ cap ≤ maxLen ∧ zs.length = cap ∧ (∀ i, i < zs.length → w.cell? (x.add i) = some (.int k (zs.getD i 0))) ∧ ∀ n ∈ zs, (Lit.int k n).wf = true
theorem IsRow.C {k : IntKind} {W : World} {A : Option Addr} {n c : Nat} {zs : List Int} (h : IsRow k W A n c zs) : Kd.C (Kd.int k) W A n (zs.take n) ∧ n ≤ c := by
 rcases h with ⟨rfl, rfl, rfl, rfl⟩ | ⟨x, rfl, h1, h2, h3, h4, _⟩
 ·exact ⟨⟨rfl, by decide, fun h => absurd h (by decide)⟩, Nat.le_refl _⟩
 ·refine ⟨⟨by rw [List.length_take]; omega, by have := h2; unfold maxLen at this; omega, fun _ => ⟨x, rfl, fun j p hp => ⟨[.int k p], rfl, rfl, fun i u hu => ?_⟩⟩⟩, h1⟩
  have hi : i = 0 := by
   have := (List.getElem?_eq_some_iff.1 hu).1
   simp at this
   exact this
  subst hi
  have e : u = .int k p := by simpa using hu.symm
  subst e
  have hj : j < n := by
   have := (List.getElem?_eq_some_iff.1 hp).1
   rw [List.length_take] at this
   omega
  have hz := h4 j (by omega)
  rw [show j * (Kd.int k).sz + 0 = j from Nat.mul_one j, hz]
  rw [List.getElem?_take_of_lt hj] at hp
  rw [List.getD_eq_getElem?_getD, hp]
  rfl
end Go.Ov
