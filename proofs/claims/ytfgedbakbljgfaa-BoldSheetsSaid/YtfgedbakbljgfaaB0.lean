/- Part 0 of a proof: no statement of its own. -/
import Derived.Test.YtfgedbakbljgfaaProg
import Derived.BigCall
import Derived.BigFrame
import Derived.Conc.Beside
import Derived.Conc.CompanyMem
import Derived.Conc.CrowdCom2
import Derived.Conc.CrowdComm
import Derived.Conc.Own2
import Derived.Conc.Own3
import Derived.Laws.Build
import Derived.Laws.Sem
import Derived.Orders
import Derived.OrdersHeld
set_option linter.unusedVariables false
set_option linter.unusedSimpArgs false
set_option maxRecDepth 20000
namespace Go.Ov
def Agree (τ : Tape) (d : Nat) (τ₀ : Tape) (d₀ n : Nat) : Prop := ∀ j q, j < n → τ (d + j) q = τ₀ (d₀ + j) q
theorem Agree.right {τ τ₀ : Tape} {d d₀ n m : Nat} (h : Agree τ d τ₀ d₀ (n + m)) : Agree τ (d + n) τ₀ (d₀ + n) m := fun j q hj => by
 have := h (n + j) q (by omega)
 simpa [Nat.add_assoc] using this
def Bad : Obj → Prop
 | .loop _ | .pending _ _ => True
 | _ => False
def Nice : Obj → Prop
 | .loop _ | .pending _ _ | .coro _ => False
 | _ => True
def PlainW (w : World) : Prop := ∀ (b : Nat) (o : Obj), w.heap[b]? = some o → ¬ Bad o
theorem Nice.good {o : Obj} (h : Nice o) : ¬ Bad o := by cases o <;> first | exact id | exact h.elim
structure Over (Z : Nat → Prop) (w w0 : World) : Prop where
 size : w.heap.size = w0.heap.size
 os : w.os = w0.os
 output : w.output = w0.output
 out : ∀ b, ¬ Z b → w.heap[b]? = w0.heap[b]?
 inn : ∀ b, Z b → (w0.heap[b]? = some (.coro none) ∧ ∃ o, w.heap[b]? = some o ∧ Bad o) ∨ (w.heap[b]? = w0.heap[b]? ∧ w0.heap[b]? ≠ some (.coro none))
theorem Over.at' {Z : Nat → Prop} {w w0 : World} (h : Over Z w w0) (b : Nat) : w.heap[b]? = w0.heap[b]? ∨ (Z b ∧ w0.heap[b]? = some (.coro none) ∧ ∃ o, w.heap[b]? = some o ∧ Bad o) := by
 by_cases hz : Z b
 ·rcases h.inn b hz with x | x
  ·exact .inr ⟨hz, x⟩
  ·exact .inl x.1
 ·exact .inl (h.out b hz)
def EndHalt : Halt → Prop
 | .unsupported (.initOrder _) => False
 | .unsupported _ | .stuck _ => True
 | _ => False
def Ends {α : Type} : Result α → Prop
 | .halt h _ => EndHalt h
 | _ => False
def Doomed {α : Type} : Sem α → Prop
 | .halt h => EndHalt h
 | _ => False
def MildHalt : Halt → Prop
 | .panic _ => True
 | h => EndHalt h
def Mild (P : Program) {α : Type} (L : α → Prop) : Sem α → Prop
 | .pure a => L a
 | .load _ _ k => ∀ v, Mild P L (k v)
 | .store _ _ _ k => Mild P L k
 | .new o k => Nice o ∧ ∀ r, Mild P L (k r)
 | .shape _ k => ∀ s, Mild P L (k s)
 | .freeze _ _ k => Mild P L k
 | .frozen _ k => ∀ b, Mild P L (k b)
 | .getObj _ k => (∀ o, ¬ Bad o → Mild P L (k o)) ∧ (Doomed (k (.coro none)) ∨ ∀ o, Bad o → k o = k (.coro none))
 | .setObj _ o k => Nice o ∧ Mild P L k
 | .choose _ k => ∀ n, Mild P L (k n)
 | .sys c k => c = .env ∧ ∀ r, Mild P L (k r)
 | .program k => Mild P L (k P)
 | .mark m k => (m ≠ .disable ∧ m ≠ .enable) ∧ Mild P L k
 | .halt h => MildHalt h
def MildEv (e : Event) : Prop := e.loc ≠ .mark .disable ∧ e.loc ≠ .mark .enable
inductive Tag (α : Type) where
 | ok (a : α)
 | pan (v : Value)
def Tag.res {α : Type} : Tag α → World → Result α
 | .ok a, w => .ok a w
 | .pan v, w => .halt (.panic v) w
def Tag.leaf {α : Type} (L : α → Prop) : Tag α → Prop
 | .ok a => L a
 | .pan _ => True
structure Ran {α : Type} (P : Program) (L : α → Prop) (s : Sem α) (w0 : World) (es : Array Event) (t : Tag α) (w1 : World) (es' : Array Event) (n : Nat) : Prop where
 run : s.runT P w0 es = (t.res w1, es')
 leaf : t.leaf L
 plain : PlainW w1
 tape : w1.tape = w0.tape
 drawn : w1.drawn = w0.drawn + n
 grows : w0.heap.size ≤ w1.heap.size
 evs : ∀ e ∈ es', e ∈ es ∨ MildEv e
 over : ∀ (Z : Nat → Prop) (w : World), Over Z w w0 → Agree w.tape w.drawn w0.tape w0.drawn n →
  ∃ w', s.runT P w es = (t.res w', es') ∧ Over Z w' w1 ∧ w'.tape = w.tape ∧ w'.drawn = w.drawn + n ∧ ∀ b : Nat, w1.heap[b]? = some (Obj.coro none) → w0.heap[b]? = some (Obj.coro none) ∧ w'.heap[b]? = w.heap[b]?
theorem mem_push {α : Type} {es : Array α} {x e : α} {Q : Prop} (h : e ∈ es.push x ∨ Q) (hx : e = x → Q) : e ∈ es ∨ Q := by
 rcases h with h | h
 ·rcases Array.mem_push.1 h with h | h
  ·exact .inl h
  ·exact .inr (hx h)
 ·exact .inr h
theorem lt_of_some {α : Type} {xs : Array α} {i : Nat} {x : α} (h : xs[i]? = some x) : i < xs.size := by
 rcases Nat.lt_or_ge i xs.size with h' | h'
 ·exact h'
 ·rw [Array.getElem?_eq_none h'] at h; cases h
theorem plain_set {w : World} {o : Obj} {b : Nat} (hp : PlainW w) (ho : ¬ Bad o) : PlainW { w with heap := w.heap.setIfInBounds b o } := by
 intro c x hx
 have hx' : (w.heap.setIfInBounds b o)[c]? = some x := hx
 rw [Array.getElem?_setIfInBounds] at hx'
 split at hx'
 ·split at hx' <;> cases hx'; exact ho
 ·exact hp c x hx'
theorem plain_push {w : World} {o : Obj} (hp : PlainW w) (ho : ¬ Bad o) : PlainW { w with heap := w.heap.push o } := by
 intro c x hx
 have hx' : (w.heap.push o)[c]? = some x := hx
 rw [Array.getElem?_push] at hx'
 split at hx'
 ·cases hx'; exact ho
 ·exact hp c x hx'
theorem modify_get (w : World) (r : Nat) (f : Obj → Obj) (b : Nat) : ({ w with heap := w.heap.modify r f } : World).heap[b]? = if r = b then (w.heap[b]?).map f else w.heap[b]? := Array.getElem?_modify ..
theorem plain_modify {w : World} {r : Nat} {f : Obj → Obj} (hp : PlainW w) (hf : ∀ o, ¬ Bad o → ¬ Bad (f o)) : PlainW { w with heap := w.heap.modify r f } := by
 intro c x hx
 rw [modify_get] at hx
 split at hx
 ·obtain ⟨o, ho, rfl⟩ := Option.map_eq_some_iff.1 hx
  exact hf o (hp c o ho)
 ·exact hp c x hx
section
variable {Z : Nat → Prop} {w w0 : World}
theorem Over.get (h : Over Z w w0) {b : Nat} {o : Obj} (ho : w0.heap[b]? = some o) (hn : o ≠ .coro none) : w.heap[b]? = some o := by
 rcases h.at' b with x | ⟨_, x, _⟩
 ·rw [x]; exact ho
 ·rw [ho] at x; exact absurd (Option.some.inj x) hn
theorem Over.cell (h : Over Z w w0) (a : Addr) : w.cell? a = w0.cell? a := by
 unfold World.cell?
 rcases h.at' a.block with x | ⟨_, x, o, ho, hb⟩
 ·rw [x]
 ·rw [x, ho]; cases o <;> first | rfl | exact hb.elim
theorem Over.shape (h : Over Z w w0) (r : Nat) : w.shape? r = w0.shape? r := by
 unfold World.shape?
 rcases h.at' r with x | ⟨_, x, o, ho, hb⟩
 ·rw [x]
 ·rw [x, ho]; cases o <;> first | rfl | exact hb.elim
theorem Over.frozen (h : Over Z w w0) (a : Addr) : w.frozen? a = w0.frozen? a := by
 unfold World.frozen?
 rcases h.at' a.block with x | ⟨_, x, o, ho, hb⟩
 ·rw [x]
 ·rw [x, ho]; cases o <;> first | rfl | exact hb.elim
theorem Over.drew (h : Over Z w w0) (d d0 : Nat) : Over Z { w with drawn := d } { w0 with drawn := d0 } := ⟨h.size, h.os, h.output, h.out, h.inn⟩
theorem Over.tapes (h : Over Z w w0) (τ τ0 : Tape) (d d0 : Nat) : Over Z { w with tape := τ, drawn := d } { w0 with tape := τ0, drawn := d0 } := ⟨h.size, h.os, h.output, h.out, h.inn⟩
theorem Over.modify (h : Over Z w w0) {r : Nat} {f : Obj → Obj} (hf : ∀ o, (∀ c e z, o ≠ .cells c e z) → f o = o) (hc : ∀ c e z, f (.cells c e z) ≠ .coro none) : Over Z { w with heap := w.heap.modify r f } { w0 with heap := w0.heap.modify r f } := by
 have hfc : f (.coro none) = .coro none := hf _ (by intro _ _ _ x; cases x)
 refine ⟨by simpa using h.size, h.os, h.output, fun b hb => by rw [modify_get, modify_get, h.out b hb], fun b hb => ?_⟩
 rw [modify_get, modify_get]
 rcases h.inn b hb with ⟨x, o, ho, hbad⟩ | ⟨x, y⟩
 ·refine .inl ?_
  have hfo : f o = o := hf o (by intro c e z e1; subst e1; exact hbad.elim)
  by_cases hr : r = b
  ·rw [if_pos hr, if_pos hr, x, ho]; exact ⟨by simp [hfc], o, by simp [hfo], hbad⟩
  ·rw [if_neg hr, if_neg hr]; exact ⟨x, o, ho, hbad⟩
 ·refine .inr ?_
  by_cases hr : r = b
  ·rw [if_pos hr, if_pos hr, x]
   refine ⟨rfl, fun e => ?_⟩
   obtain ⟨o, ho, e1⟩ := Option.map_eq_some_iff.1 e
   by_cases hcl : ∃ c e z, o = .cells c e z
   ·obtain ⟨c, e, z, rfl⟩ := hcl; exact hc _ _ _ e1
   ·rw [hf o (fun c e z e2 => hcl ⟨c, e, z, e2⟩)] at e1; subst e1; exact y ho
  ·rw [if_neg hr, if_neg hr]; exact ⟨x, y⟩
theorem modify_kept {r : Nat} {f : Obj → Obj} (h : Over Z w w0) (hf : ∀ o, (∀ c e z, o ≠ .cells c e z) → f o = o) (hc : ∀ c e z, f (.cells c e z) ≠ .coro none) {b : Nat}
  (hb : ({ w0 with heap := w0.heap.modify r f } : World).heap[b]? = some (.coro none)) : w0.heap[b]? = some (.coro none) ∧ ({ w with heap := w.heap.modify r f } : World).heap[b]? = w.heap[b]? := by
 have h0 : w0.heap[b]? = some (.coro none) := by
  rw [modify_get] at hb
  split at hb
  ·obtain ⟨o, ho, e1⟩ := Option.map_eq_some_iff.1 hb
   by_cases hcl : ∃ c e z, o = .cells c e z
   ·obtain ⟨c, e, z, rfl⟩ := hcl; exact absurd e1 (hc _ _ _)
   ·rw [hf o (fun c e z e2 => hcl ⟨c, e, z, e2⟩)] at e1; subst e1; exact ho
  ·exact hb
 refine ⟨h0, ?_⟩
 rw [modify_get]
 split
 ·rcases h.at' b with x | ⟨_, _, o, ho, hbad⟩
  ·rw [x, h0]; simp [hf (.coro none) (by intro _ _ _ x; cases x)]
  ·rw [ho]; simp [hf o (by intro c e z e1; subst e1; exact hbad.elim)]
 ·rfl
def setF (a : Addr) (v : Value) : Obj → Obj
 | .cells c elem frozen => .cells (if a.spot.isSome then c else c.setIfInBounds a.off v) elem frozen
 | o => o
theorem setCell_eq (w : World) (a : Addr) (v : Value) : w.setCell a v = { w with heap := w.heap.modify a.block (setF a v) } := by
 unfold World.setCell
 congr 2
theorem setF_other (a : Addr) (v : Value) (o : Obj) (h : ∀ c e z, o ≠ .cells c e z) : setF a v o = o := by cases o <;> first | rfl | exact absurd rfl (h _ _ _)
theorem setF_cells (a : Addr) (v : Value) (c : Array Value) (e : TypeId) (z : Nat × Nat) : setF a v (.cells c e z) ≠ .coro none := by intro x; cases x
def freezeF (a : Addr) (n : Nat) : Obj → Obj
 | .cells c elem (lo, hi) => .cells c elem (if lo == hi then (a.off, a.off + n) else (min lo a.off, max hi (a.off + n)))
 | o => o
theorem freeze_eq (w : World) (a : Addr) (n : Nat) : w.freeze a n = if n = 0 then w else { w with heap := w.heap.modify a.block (freezeF a n) } := by
 unfold World.freeze
 split
 ·rfl
 ·congr 2
theorem freezeF_other (a : Addr) (n : Nat) (o : Obj) (h : ∀ c e z, o ≠ .cells c e z) : freezeF a n o = o := by cases o <;> first | rfl | exact absurd rfl (h _ _ _)
theorem freezeF_cells (a : Addr) (n : Nat) (c : Array Value) (e : TypeId) (z : Nat × Nat) : freezeF a n (.cells c e z) ≠ .coro none := by intro x; cases x
theorem Over.set (h : Over Z w w0) {r : Nat} {o : Obj} (hn : o ≠ .coro none) : Over Z { w with heap := w.heap.setIfInBounds r o } { w0 with heap := w0.heap.setIfInBounds r o } := by
 refine ⟨by simpa using h.size, h.os, h.output, fun b hb => ?_, fun b hb => ?_⟩
 ·show (w.heap.setIfInBounds r o)[b]? = (w0.heap.setIfInBounds r o)[b]?
  rw [Array.getElem?_setIfInBounds, Array.getElem?_setIfInBounds, h.size, h.out b hb]
 ·show ((w0.heap.setIfInBounds r o)[b]? = _ ∧ ∃ o', (w.heap.setIfInBounds r o)[b]? = some o' ∧ _) ∨ ((w.heap.setIfInBounds r o)[b]? = (w0.heap.setIfInBounds r o)[b]? ∧ (w0.heap.setIfInBounds r o)[b]? ≠ _)
  rw [Array.getElem?_setIfInBounds, Array.getElem?_setIfInBounds, h.size]
  by_cases hr : r = b
  ·refine .inr ?_
   rw [if_pos hr, if_pos hr]
   refine ⟨rfl, ?_⟩
   split
   ·intro e; exact hn (Option.some.inj e)
   ·intro e; cases e
  ·rw [if_neg hr, if_neg hr]; exact h.inn b hb
theorem set_kept {r : Nat} {o : Obj} (hn : o ≠ .coro none) {b : Nat} (hb : ({ w0 with heap := w0.heap.setIfInBounds r o } : World).heap[b]? = some (.coro none)) :
  w0.heap[b]? = some (.coro none) ∧ ({ w with heap := w.heap.setIfInBounds r o } : World).heap[b]? = w.heap[b]? := by
 have hb' : (w0.heap.setIfInBounds r o)[b]? = some (.coro none) := hb
 rw [Array.getElem?_setIfInBounds] at hb'
 split at hb'
 ·split at hb'
  ·exact absurd (Option.some.inj hb') hn
  ·cases hb'
 ·rename_i hr
  refine ⟨hb', ?_⟩
  show (w.heap.setIfInBounds r o)[b]? = _
  rw [Array.getElem?_setIfInBounds_ne hr]
theorem Over.push (h : Over Z w w0) {o : Obj} (hn : o ≠ .coro none) : Over Z { w with heap := w.heap.push o } { w0 with heap := w0.heap.push o } := by
 refine ⟨by simpa using h.size, h.os, h.output, fun b hb => ?_, fun b hb => ?_⟩
 ·show (w.heap.push o)[b]? = (w0.heap.push o)[b]?
  rw [Array.getElem?_push, Array.getElem?_push, h.size, h.out b hb]
 ·show ((w0.heap.push o)[b]? = _ ∧ ∃ o', (w.heap.push o)[b]? = some o' ∧ _) ∨ ((w.heap.push o)[b]? = (w0.heap.push o)[b]? ∧ (w0.heap.push o)[b]? ≠ _)
  rw [Array.getElem?_push, Array.getElem?_push, h.size]
  by_cases hr : b = w0.heap.size
  ·rw [if_pos hr, if_pos hr]
   exact .inr ⟨rfl, fun e => hn (Option.some.inj e)⟩
  ·rw [if_neg hr, if_neg hr]; exact h.inn b hb
theorem push_kept (h : Over Z w w0) {o : Obj} (hn : o ≠ .coro none) {b : Nat} (hb : ({ w0 with heap := w0.heap.push o } : World).heap[b]? = some (.coro none)) :
  w0.heap[b]? = some (.coro none) ∧ ({ w with heap := w.heap.push o } : World).heap[b]? = w.heap[b]? := by
 have hb' : (w0.heap.push o)[b]? = some (.coro none) := hb
 rw [Array.getElem?_push] at hb'
 split at hb'
 ·exact absurd (Option.some.inj hb') hn
 ·rename_i hr
  refine ⟨hb', ?_⟩
  show (w.heap.push o)[b]? = _
  rw [Array.getElem?_push, h.size, if_neg hr]
end
theorem noCell_ends {w : World} (hp : PlainW w) (a : Addr) (s : String) : EndHalt (w.noCell a s) := by
 unfold World.noCell
 split
 ·rename_i h; exact (hp _ _ h trivial).elim
 ·trivial
 ·trivial
theorem farLoad_ends {P : Program} {w : World} (hp : PlainW w) {a : Addr} {b : Bool} {h : Halt} (e : w.farLoad P a b = .error h) : EndHalt h := by
 unfold World.farLoad at e
 split at e
 ·split at e <;> simp at e; subst e; trivial
 ·simp only [Except.error.injEq] at e; subst e; exact noCell_ends hp _ _
theorem farStore_ends {P : Program} {w : World} (hp : PlainW w) {a : Addr} {v : Value} {b : Bool} {h : Halt} (e : w.farStore P a v b = .error h) : EndHalt h := by
 unfold World.farStore at e
 split at e
 ·split at e <;> simp at e; subst e; trivial
 ·simp only [Except.error.injEq] at e; subst e; exact noCell_ends hp _ _
theorem Over.seen {Z : Nat → Prop} {w w0 : World} (h : Over Z w w0) (P : Program) (at_ : Addr) (u : TypeId) (k : Addr) (b : Bool) : w.seen P at_ u k b = w0.seen P at_ u k b := by
 unfold World.seen
 rcases h.at' at_.block with x | ⟨_, x, o, ho, hb⟩
 ·rw [x]
 ·rw [x, ho]; cases o <;> first | rfl | exact hb.elim
theorem Over.farLoad {Z : Nat → Prop} {w w0 : World} (h : Over Z w w0) {P : Program} {a : Addr} {b : Bool} {x : Value × List Addr} (e : w0.farLoad P a b = .ok x) : w.farLoad P a b = .ok x := by
 unfold World.farLoad at e ⊢
 split at e
 ·rename_i at_ u hv
  rw [h.get hv (by intro y; cases y)]
  simp only [World.viewLoad, h.seen] at e ⊢
  exact e
 ·cases e
theorem viewStore_lays {P : Program} {w0 w1 : World} {at_ : Addr} {u : TypeId} {k : Addr} {v : Value} {b : Bool} {l : List Addr} (e : w0.viewStore P at_ u k v b = .ok (w1, l)) :
  ∃ c ty z, w1 = { w0 with heap := w0.heap.setIfInBounds at_.block (.cells c ty z) } ∧ ∀ w : World, w.seen P at_ u k b = w0.seen P at_ u k b → w.viewStore P at_ u k v b = .ok ({ w with heap := w.heap.setIfInBounds at_.block (.cells c ty z) }, l) := by
 unfold World.viewStore at e ⊢
 generalize hr : w0.seen P at_ u k b = r at e
 generalize tight P P.depth u = tt at e ⊢
 cases tt
 ·cases e
 ·cases r with
  | error e' => cases e
  | ok x =>
   obtain ⟨c, ty, fz, first, like, cells⟩ := x
   rcases hv : v.bytes? with _ | bs
   ·rw [hv] at e; cases e
   ·rw [hv] at e
    simp only [bind, Except.bind, pure, Except.pure, Bool.not_true, Bool.false_eq_true, if_false] at e ⊢
    by_cases h1 : some bs.length ≠ Option.map (fun x => x.length) like.bytes?
    ·rw [if_pos h1] at e; cases e
    ·rw [if_neg h1] at e
     split at e
     ·cases e
     ·rename_i c' hc'
      simp only [Except.ok.injEq, Prod.mk.injEq] at e
      obtain ⟨rfl, rfl⟩ := e
      refine ⟨c', ty, fz, rfl, fun w hw => ?_⟩
      rw [hw]
      simp only
      rw [if_neg h1, hc']
theorem farStore_lays {P : Program} {w0 w1 : World} {a : Addr} {v : Value} {b : Bool} {l : List Addr} (e : w0.farStore P a v b = .ok (w1, l)) :
  ∃ r c ty z, w1 = { w0 with heap := w0.heap.setIfInBounds r (.cells c ty z) } ∧ ∀ (Z : Nat → Prop) (w : World), Over Z w w0 → w.farStore P a v b = .ok ({ w with heap := w.heap.setIfInBounds r (.cells c ty z) }, l) := by
 unfold World.farStore at e
 split at e
 ·rename_i at_ u hv
  split at e
  ·rename_i x hx
   cases e
   obtain ⟨c, ty, z, h1, h2⟩ := viewStore_lays hx
   refine ⟨at_.block, c, ty, z, h1, fun Z w hw => ?_⟩
   unfold World.farStore
   rw [hw.get hv (by intro y; cases y)]
   simp only
   rw [h2 w (hw.seen ..)]
  ·cases e
 ·cases e
theorem doomed_ends {P : Program} {α : Type} {s : Sem α} (h : Doomed s) (w : World) (es : Array Event) : Ends (s.runT P w es).1 := by
 cases s <;> first | exact h | exact h.elim
theorem doomed_bind {α β : Type} {s : Sem α} (f : α → Sem β) (h : Doomed s) : Doomed (s.bind f) := by
 cases s <;> first | exact h | exact h.elim
theorem Mild.bind {P : Program} {α β : Type} {L : α → Prop} {L' : β → Prop} : ∀ {s : Sem α} {f : α → Sem β}, Mild P L s → (∀ a, L a → Mild P L' (f a)) → Mild P L' (s.bind f)
 | .pure a, f, h, hf => hf a h
 | .load _ _ k, f, h, hf => fun v => Mild.bind (s := k v) (h v) hf
 | .store _ _ _ k, f, h, hf => Mild.bind (s := k) h hf
 | .new _ k, f, h, hf => ⟨h.1, fun v => Mild.bind (s := k v) (h.2 v) hf⟩
 | .shape _ k, f, h, hf => fun v => Mild.bind (s := k v) (h v) hf
 | .freeze _ _ k, f, h, hf => Mild.bind (s := k) h hf
 | .frozen _ k, f, h, hf => fun v => Mild.bind (s := k v) (h v) hf
 | .getObj _ k, f, h, hf => ⟨fun v hv => Mild.bind (s := k v) (h.1 v hv) hf, h.2.imp (doomed_bind f) fun x o ho => congrArg (fun y => y.bind f) (x o ho)⟩
 | .setObj _ _ k, f, h, hf => ⟨h.1, Mild.bind (s := k) h.2 hf⟩
 | .choose _ k, f, h, hf => fun v => Mild.bind (s := k v) (h v) hf
 | .sys _ k, f, h, hf => ⟨h.1, fun r => Mild.bind (s := k r) (h.2 r) hf⟩
 | .program k, f, h, hf => Mild.bind (s := k P) h hf
 | .mark m k, f, h, hf => ⟨h.1, Mild.bind (s := k) h.2 hf⟩
 | .halt _, f, h, hf => h
theorem push_evs {es es' : Array Event} {x : Event} (h : ∀ e ∈ es', e ∈ es.push x ∨ MildEv e) (hx : MildEv x) : ∀ e ∈ es', e ∈ es ∨ MildEv e :=
 fun e he => mem_push (h e he) fun ex => ex ▸ hx
theorem app_evs {es es' xs : Array Event} (h : ∀ e ∈ es', e ∈ es ++ xs ∨ MildEv e) (hx : ∀ x ∈ xs, MildEv x) : ∀ e ∈ es', e ∈ es ∨ MildEv e :=
 fun e he => (h e he).elim (fun y => (Array.mem_append.1 y).elim .inl fun z => .inr (hx e z)) .inr
theorem sys_env (w : World) : w.sys .env = (.strings w.os.env, w) := rfl
theorem run_over {P : Program} {α : Type} {L : α → Prop} : ∀ (s : Sem α), Mild P L s → ∀ (w : World) (es : Array Event), PlainW w →
  Ends (s.runT P w es).1 ∨ ∃ t w1 es' n, Ran P L s w es t w1 es' n
 | .pure a, h, w, es, hp => .inr ⟨.ok a, w, es, 0, rfl, h, hp, rfl, rfl, Nat.le_refl _, fun _ he => .inl he, fun Z x hx _ => ⟨x, rfl, hx, rfl, rfl, fun _ h => ⟨h, rfl⟩⟩⟩
 | .load m a k, h, w, es, hp => by
  cases hc : w.cell? a with
  | some v =>
   have e : ∀ x : World, x.cell? a = some v → (Sem.load m a k).runT P x es = (k v).runT P x (es.push ⟨.cell a, false, m == .atomic⟩) := by
    intro x h'; simp only [Sem.runT, h']
   rcases run_over (k v) (h v) w (es.push ⟨.cell a, false, m == .atomic⟩) hp with hr | ⟨t, w1, es', n, r⟩
   ·exact .inl (by rw [e w hc]; exact hr)
   ·exact .inr ⟨t, w1, es', n, by rw [e w hc]; exact r.run, r.leaf, r.plain, r.tape, r.drawn, r.grows, push_evs r.evs ⟨by simp, by simp⟩, fun Z x hx ha => by
     rw [e x (by rw [hx.cell]; exact hc)]; exact r.over Z x hx ha⟩
  | none =>
   rcases hf : w.farLoad P a (m == .atomic) with hh | ⟨v, touched⟩
   ·exact .inl (by simp only [Sem.runT, hc, hf]; exact farLoad_ends hp hf)
   ·have e : ∀ x : World, x.cell? a = none → x.farLoad P a (m == .atomic) = .ok (v, touched) → (Sem.load m a k).runT P x es = (k v).runT P x (es ++ touched.toArray.map (⟨.cell ·, false, m == .atomic⟩)) := by
     intro x h' h''; simp only [Sem.runT, h', h'']
    rcases run_over (k v) (h v) w (es ++ touched.toArray.map (⟨.cell ·, false, m == .atomic⟩)) hp with hr | ⟨t, w1, es', n, r⟩
    ·exact .inl (by rw [e w hc hf]; exact hr)
    ·exact .inr ⟨t, w1, es', n, by rw [e w hc hf]; exact r.run, r.leaf, r.plain, r.tape, r.drawn, r.grows, app_evs r.evs (by
      intro x hx; obtain ⟨y, _, rfl⟩ := Array.mem_map.1 hx; exact ⟨by simp, by simp⟩), fun Z x hx ha => by
      rw [e x (by rw [hx.cell]; exact hc) (hx.farLoad hf)]; exact r.over Z x hx ha⟩
 | .store m a v k, h, w, es, hp => by
  have hk : Mild P L k := h
  by_cases hv : (∃ xs, v = .agg xs) ∨ (∃ xs, v = .tuple xs)
  ·exact .inl (by rcases hv with ⟨xs, rfl⟩ | ⟨xs, rfl⟩ <;> trivial)
  ·cases hc : w.cell? a with
   | some v0 =>
    by_cases hz : w.frozen? a = true
    ·refine .inl ?_
     cases v <;> first | exact absurd (.inl ⟨_, rfl⟩) hv | exact absurd (.inr ⟨_, rfl⟩) hv | (simp only [Sem.runT, hc, hz, if_true]; trivial)
    ·have hz' : w.frozen? a = false := by simpa using hz
     have e : ∀ x : World, x.cell? a = some v0 → x.frozen? a = false → (Sem.store m a v k).runT P x es = k.runT P (x.setCell a v) (es.push ⟨.cell a, true, m == .atomic⟩) := by
      intro x h' h''
      cases v <;> first | exact absurd (.inl ⟨_, rfl⟩) hv | exact absurd (.inr ⟨_, rfl⟩) hv | simp only [Sem.runT, h', h'', Bool.false_eq_true, if_false]
     have hpl : PlainW (w.setCell a v) := by
      rw [setCell_eq]; exact plain_modify hp fun o ho => by cases o <;> exact ho
     rcases run_over k hk (w.setCell a v) (es.push ⟨.cell a, true, m == .atomic⟩) hpl with hr | ⟨t, w1, es', n, r⟩
     ·exact .inl (by rw [e w hc hz']; exact hr)
     ·exact .inr ⟨t, w1, es', n, by rw [e w hc hz']; exact r.run, r.leaf, r.plain, r.tape, r.drawn, by simpa [World.setCell] using r.grows, push_evs r.evs ⟨by simp, by simp⟩, fun Z x hx ha => by
       rw [e x (by rw [hx.cell]; exact hc) (by rw [hx.frozen]; exact hz')]
       have ho : Over Z (x.setCell a v) (w.setCell a v) := by
        rw [setCell_eq, setCell_eq]; exact hx.modify (setF_other a v) (setF_cells a v)
       obtain ⟨w', h1, h2, h3, h4, h5⟩ := r.over Z (x.setCell a v) ho ha
       refine ⟨w', h1, h2, h3, h4, fun b hb => ?_⟩
       obtain ⟨h6, h7⟩ := h5 b hb
       rw [setCell_eq] at h6
       obtain ⟨h8, h9⟩ := modify_kept hx (setF_other a v) (setF_cells a v) h6
       exact ⟨h8, h7.trans (by rw [setCell_eq]; exact h9)⟩⟩
   | none =>
    rcases hf : w.farStore P a v (m == .atomic) with hh | ⟨w2, touched⟩
    ·refine .inl ?_
     have := farStore_ends hp hf
     cases v <;> first | exact absurd (.inl ⟨_, rfl⟩) hv | exact absurd (.inr ⟨_, rfl⟩) hv | (simp only [Sem.runT, hc, hf]; exact this)
    ·have e : ∀ x x' : World, x.cell? a = none → x.farStore P a v (m == .atomic) = .ok (x', touched) → (Sem.store m a v k).runT P x es = k.runT P x' (es ++ touched.toArray.map (⟨.cell ·, true, m == .atomic⟩)) := by
      intro x x' h' h''
      cases v <;> first | exact absurd (.inl ⟨_, rfl⟩) hv | exact absurd (.inr ⟨_, rfl⟩) hv | simp only [Sem.runT, h', h'']
     obtain ⟨b, c, ty, z, rfl, hover⟩ := farStore_lays hf
     have hnc : Obj.cells c ty z ≠ .coro none := by intro y; cases y
     rcases run_over k hk _ (es ++ touched.toArray.map (⟨.cell ·, true, m == .atomic⟩)) (plain_set (b := b) (o := .cells c ty z) hp id) with hr | ⟨t, w1, es', n, r⟩
     ·exact .inl (by rw [e w _ hc hf]; exact hr)
     ·exact .inr ⟨t, w1, es', n, by rw [e w _ hc hf]; exact r.run, r.leaf, r.plain, r.tape, r.drawn, by simpa using r.grows, app_evs r.evs (by
       intro x hx; obtain ⟨y, _, rfl⟩ := Array.mem_map.1 hx; exact ⟨by simp, by simp⟩), fun Z x hx ha => by
       rw [e x _ (by rw [hx.cell]; exact hc) (hover Z x hx)]
       obtain ⟨w', h1, h2, h3, h4, h5⟩ := r.over Z _ (hx.set hnc) ha
       refine ⟨w', h1, h2, h3, h4, fun b hb => ?_⟩
       obtain ⟨h6, h7⟩ := h5 b hb
       obtain ⟨h8, h9⟩ := set_kept (w := x) hnc h6
       exact ⟨h8, h7.trans h9⟩⟩
 | .new o k, h, w, es, hp => by
  have hn : o ≠ .coro none := by intro e; subst e; exact h.1
  rcases run_over (k w.heap.size) (h.2 _) { w with heap := w.heap.push o } es (plain_push hp h.1.good) with hr | ⟨t, w1, es', n, r⟩
  ·exact .inl hr
  ·refine .inr ⟨t, w1, es', n, r.run, r.leaf, r.plain, r.tape, r.drawn, Nat.le_trans (by simp) r.grows, r.evs, fun Z x hx ha => ?_⟩
   obtain ⟨w', h1, h2, h3, h4, h5⟩ := r.over Z { x with heap := x.heap.push o } (hx.push hn) ha
   refine ⟨w', ?_, h2, h3, h4, fun b hb => ?_⟩
   ·simp only [Sem.runT]; rw [hx.size]; exact h1
   ·obtain ⟨h6, h7⟩ := h5 b hb
    obtain ⟨h8, h9⟩ := push_kept hx hn h6
    exact ⟨h8, h7.trans h9⟩
 | .shape b k, h, w, es, hp => by
  rcases run_over (k (w.shape? b)) (h _) w es hp with hr | ⟨t, w1, es', n, r⟩
  ·exact .inl hr
  ·refine .inr ⟨t, w1, es', n, r.run, r.leaf, r.plain, r.tape, r.drawn, r.grows, r.evs, fun Z x hx ha => ?_⟩
   have := r.over Z x hx ha
   simp only [Sem.runT]; rw [hx.shape]; exact this
 | .freeze a m k, h, w, es, hp => by
  have hk : Mild P L k := h
  have hpl : PlainW (w.freeze a m) := by
   rw [freeze_eq]; split
   ·exact hp
   ·exact plain_modify hp fun o ho => by cases o <;> exact ho
  have keeps : ∀ x : World, (x.freeze a m).tape = x.tape ∧ (x.freeze a m).drawn = x.drawn ∧ (x.freeze a m).heap.size = x.heap.size := by
   intro x; rw [freeze_eq]; split <;> simp
  rcases run_over k hk (w.freeze a m) es hpl with hr | ⟨t, w1, es', n, r⟩
  ·exact .inl hr
  ·refine .inr ⟨t, w1, es', n, r.run, r.leaf, r.plain, r.tape.trans (keeps w).1, by rw [r.drawn, (keeps w).2.1], by rw [← (keeps w).2.2]; exact r.grows, r.evs, fun Z x hx ha => ?_⟩
   have ho : Over Z (x.freeze a m) (w.freeze a m) := by
    rw [freeze_eq, freeze_eq]; split
    ·exact hx
    ·exact hx.modify (freezeF_other a m) (freezeF_cells a m)
   obtain ⟨w', h1, h2, h3, h4, h5⟩ := r.over Z (x.freeze a m) ho (by rw [(keeps x).1, (keeps x).2.1, (keeps w).1, (keeps w).2.1]; exact ha)
   refine ⟨w', h1, h2, h3.trans (keeps x).1, by rw [h4, (keeps x).2.1], fun b hb => ?_⟩
   obtain ⟨h6, h7⟩ := h5 b hb
   rw [freeze_eq] at h6
   rw [freeze_eq] at h7
   split at h6
   ·rename_i hm; rw [if_pos hm] at h7; exact ⟨h6, h7⟩
   ·rename_i hm; rw [if_neg hm] at h7
    obtain ⟨h8, h9⟩ := modify_kept hx (freezeF_other a m) (freezeF_cells a m) h6
    exact ⟨h8, h7.trans h9⟩
 | .frozen a k, h, w, es, hp => by
  rcases run_over (k (w.frozen? a)) (h _) w es hp with hr | ⟨t, w1, es', n, r⟩
  ·exact .inl hr
  ·refine .inr ⟨t, w1, es', n, r.run, r.leaf, r.plain, r.tape, r.drawn, r.grows, r.evs, fun Z x hx ha => ?_⟩
   have := r.over Z x hx ha
   simp only [Sem.runT]; rw [hx.frozen]; exact this
 | .getObj b k, h, w, es, hp => by
  rcases ho : w.heap[b]? with _ | o
  ·exact .inl (by simp only [Sem.runT, ho]; trivial)
  ·by_cases hh : ∃ c e f, o = .cells c e f
   ·obtain ⟨c, e, f, rfl⟩ := hh
    exact .inl (by simp only [Sem.runT, ho]; trivial)
   ·have hn : ∀ c e f, o ≠ .cells c e f := fun c e f hx => hh ⟨c, e, f, hx⟩
    have e : ∀ (x : World) (o : Obj), (∀ c e f, o ≠ .cells c e f) → x.heap[b]? = some o → (Sem.getObj b k).runT P x es = (k o).runT P x (es.push ⟨.obj b, false, o.isChan⟩) := by
     intro x o hn h'
     simp only [Sem.runT, h']
     try (cases o <;> first | rfl | exact absurd rfl (hn _ _ _))
    rcases run_over (k o) (h.1 o (hp b o ho)) w (es.push ⟨.obj b, false, o.isChan⟩) hp with hr | ⟨t, w1, es', n, r⟩
    ·exact .inl (by rw [e w o hn ho]; exact hr)
    ·by_cases hd : o = .coro none ∧ Doomed (k (.coro none))
     ·refine .inl ?_
      rw [e w o hn ho, hd.1]; exact doomed_ends hd.2 _ _
     ·exact .inr ⟨t, w1, es', n, by rw [e w o hn ho]; exact r.run, r.leaf, r.plain, r.tape, r.drawn, r.grows, push_evs r.evs ⟨by simp, by simp⟩, fun Z x hx ha => by
       rcases hx.at' b with y | ⟨_, y, o', ho', hb'⟩
       ·rw [e x o hn (y.trans ho)]; exact r.over Z x hx ha
       ·rw [ho] at y
        have y' := Option.some.inj y
        have hk2 : k o' = k (.coro none) := by
         rcases h.2 with h2 | h2
         ·exact absurd ⟨y', h2⟩ hd
         ·exact h2 o' hb'
        rw [e x o' (by intro c e f e1; subst e1; exact hb'.elim) ho', hk2]
        have : o'.isChan = o.isChan := by rw [y']; cases o' <;> first | rfl | exact hb'.elim
        rw [this, y']
        have := r.over Z x hx ha
        rw [y'] at this; exact this⟩
 | .setObj b o k, h, w, es, hp => by
  have hk : Mild P L k := h.2
  have hnc : o ≠ .coro none := by intro e; subst e; exact h.1
  rcases ho : w.heap[b]? with _ | o0
  ·exact .inl (by simp only [Sem.runT, ho]; trivial)
  ·by_cases hh : ∃ c e f, o0 = .cells c e f
   ·obtain ⟨c, e, f, rfl⟩ := hh
    exact .inl (by simp only [Sem.runT, ho]; trivial)
   ·have hn : ∀ c e f, o0 ≠ .cells c e f := fun c e f hx => hh ⟨c, e, f, hx⟩
    have e : ∀ (x : World) (o1 : Obj), (∀ c e f, o1 ≠ .cells c e f) → x.heap[b]? = some o1 → (Sem.setObj b o k).runT P x es = k.runT P { x with heap := x.heap.setIfInBounds b o } (es.push ⟨.obj b, true, o.isChan⟩) := by
     intro x o1 hn h'
     simp only [Sem.runT, h']
     try (cases o1 <;> first | rfl | exact absurd rfl (hn _ _ _))
    rcases run_over k hk { w with heap := w.heap.setIfInBounds b o } (es.push ⟨.obj b, true, o.isChan⟩) (plain_set hp h.1.good) with hr | ⟨t, w1, es', n, r⟩
    ·exact .inl (by rw [e w o0 hn ho]; exact hr)
    ·exact .inr ⟨t, w1, es', n, by rw [e w o0 hn ho]; exact r.run, r.leaf, r.plain, r.tape, r.drawn, by simpa using r.grows, push_evs r.evs ⟨by simp, by simp⟩, fun Z x hx ha => by
      have he : (Sem.setObj b o k).runT P x es = k.runT P { x with heap := x.heap.setIfInBounds b o } (es.push ⟨.obj b, true, o.isChan⟩) := by
       rcases hx.at' b with y | ⟨_, y, o', ho', hb'⟩
       ·exact e x o0 hn (y.trans ho)
       ·exact e x o' (by intro c e f e1; subst e1; exact hb'.elim) ho'
      rw [he]
      obtain ⟨w', h1, h2, h3, h4, h5⟩ := r.over Z _ (hx.set hnc) ha
      refine ⟨w', h1, h2, h3, h4, fun c hc => ?_⟩
      obtain ⟨h6, h7⟩ := h5 c hc
      obtain ⟨h8, h9⟩ := set_kept (w := x) hnc h6
      exact ⟨h8, h7.trans h9⟩⟩
 | .choose q k, h, w, es, hp => by
  by_cases hq : q.forced = true
  ·have e : ∀ x : World, (Sem.choose q k).runT P x es = (k 0).runT P x es := by intro x; simp only [Sem.runT, hq, if_true]
   rcases run_over (k 0) (h _) w es hp with hr | ⟨t, w1, es', n, r⟩
   ·exact .inl (by rw [e]; exact hr)
   ·exact .inr ⟨t, w1, es', n, by rw [e]; exact r.run, r.leaf, r.plain, r.tape, r.drawn, r.grows, r.evs, fun Z x hx ha => by rw [e]; exact r.over Z x hx ha⟩
  ·have hq' : q.forced = false := by simpa using hq
   have e : ∀ x : World, (Sem.choose q k).runT P x es = (k (q.cut (x.tape x.drawn q))).runT P { x with drawn := x.drawn + 1 } es := by intro x; simp only [Sem.runT, hq', Bool.false_eq_true, if_false]
   rcases run_over (k (q.cut (w.tape w.drawn q))) (h _) { w with drawn := w.drawn + 1 } es hp with hr | ⟨t, w1, es', n, r⟩
   ·exact .inl (by rw [e]; exact hr)
   ·refine .inr ⟨t, w1, es', 1 + n, by rw [e]; exact r.run, r.leaf, r.plain, r.tape, by rw [r.drawn]; show w.drawn + 1 + n = _; omega, r.grows, r.evs, fun Z x hx ha => ?_⟩
    have h0 : x.tape x.drawn q = w.tape w.drawn q := by have := ha 0 q (by omega); simpa using this
    obtain ⟨w', h1, h2, h3, h4, h5⟩ := r.over Z { x with drawn := x.drawn + 1 } (hx.drew _ _) (Agree.right ha)
    refine ⟨w', ?_, h2, h3, ?_, h5⟩
    ·rw [e, h0]; exact h1
    ·rw [h4]; show x.drawn + 1 + n = _; omega
 | .sys c k, h, w, es, hp => by
  obtain ⟨rfl, h⟩ := h
  have e : ∀ x : World, x.os = w.os → (Sem.sys .env k).runT P x es = (k (.strings w.os.env)).runT P x (es.push ⟨.output, true, false⟩) := by
   intro x hx; simp only [Sem.runT, sys_env]; rw [hx]
  rcases run_over (k (.strings w.os.env)) (h _) w (es.push ⟨.output, true, false⟩) hp with hr | ⟨t, w1, es', n, r⟩
  ·exact .inl (by rw [e w rfl]; exact hr)
  ·exact .inr ⟨t, w1, es', n, by rw [e w rfl]; exact r.run, r.leaf, r.plain, r.tape, r.drawn, r.grows, push_evs r.evs ⟨by simp, by simp⟩, fun Z x hx ha => by rw [e x hx.os]; exact r.over Z x hx ha⟩
 | .program k, h, w, es, hp => by
  have hk : Mild P L (k P) := h
  rcases run_over (k P) hk w es hp with hr | ⟨t, w1, es', n, r⟩
  ·exact .inl hr
  ·exact .inr ⟨t, w1, es', n, r.run, r.leaf, r.plain, r.tape, r.drawn, r.grows, r.evs, fun Z x hx ha => r.over Z x hx ha⟩
 | .mark m k, h, w, es, hp => by
  have hk : Mild P L k := h.2
  rcases run_over k hk w (es.push ⟨.mark m, false, true⟩) hp with hr | ⟨t, w1, es', n, r⟩
  ·exact .inl hr
  ·exact .inr ⟨t, w1, es', n, r.run, r.leaf, r.plain, r.tape, r.drawn, r.grows, push_evs r.evs ⟨by simpa using h.1.1, by simpa using h.1.2⟩, fun Z x hx ha => r.over Z x hx ha⟩
 | .halt hh, h, w, es, hp => by
  cases hh with
  | panic v => exact .inr ⟨.pan v, w, es, 0, rfl, trivial, hp, rfl, rfl, Nat.le_refl _, fun _ he => .inl he, fun Z x hx _ => ⟨x, rfl, hx, rfl, rfl, fun _ h => ⟨h, rfl⟩⟩⟩
  | unsupported u => exact .inl h
  | stuck s => exact .inl trivial
  | _ => exact h.elim
variable {P : Program}
abbrev MT (P : Program) {α : Type} (s : Sem α) : Prop := Mild P (fun _ => True) s
theorem mild_load (a : Addr) (m : Mode) : MT P (load a m) := fun _ => True.intro
theorem mild_store (a : Addr) (v : Value) (m : Mode) : MT P (store a v m) := True.intro
theorem mild_program : MT P program := True.intro
theorem mild_choose (q : Question) : MT P (choose q) := fun _ => True.intro
theorem mild_shape (r : Nat) : MT P (shape r) := fun _ => True.intro
theorem mild_frozen (a : Addr) : MT P (frozen a) := fun _ => True.intro
theorem mild_new {o : Obj} (h : Nice o) : MT P (newObj o) := ⟨h, fun _ => True.intro⟩
theorem mild_setObj {r : Nat} {o : Obj} (h : Nice o) : MT P (setObj r o) := ⟨h, True.intro⟩
theorem mild_getObj_bind {α : Type} {L : α → Prop} {r : Nat} {f : Obj → Sem α} (h1 : ∀ o, ¬ Bad o → Mild P L (f o)) (h2 : Doomed (f (.coro none)) ∨ ∀ o, Bad o → f o = f (.coro none)) : Mild P L (getObj r >>= f) := ⟨h1, h2⟩
theorem mild_noRoom : MT P (mark .noRoom) := ⟨⟨by simp, by simp⟩, True.intro⟩
theorem mild_typeInfo (t : TypeId) : MT P (typeInfo t) := by
 show Mild P _ (match P.info? t with | some i => pure i | none => stuck "no such type")
 split <;> exact True.intro
theorem mild_underlying (t : TypeId) : MT P (underlying t) := by
 show Mild P _ (match P.underlying t with | some d => pure d | none => stuck "no such type")
 split <;> exact True.intro
theorem mild_bindT {α β : Type} {L : β → Prop} {s : Sem α} {f : α → Sem β} (h : MT P s) (hf : ∀ a, Mild P L (f a)) : Mild P L (s >>= f) := Mild.bind (L := fun _ => True) h fun a _ => hf a
theorem mild_underlying_bind {α : Type} {L : α → Prop} {t : TypeId} {f : TypeDesc → Sem α} (h : ∀ d, P.underlying t = some d → Mild P L (f d)) : Mild P L (underlying t >>= f) := by
 show Mild P L ((match P.underlying t with | some d => pure d | none => stuck "no such type" : Sem TypeDesc).bind f)
 cases e : P.underlying t with
 | some d => exact h d e
 | none => exact True.intro
theorem mild_zeroValue (t : TypeId) : MT P (zeroValue t) := by
 unfold zeroValue
 refine mild_bindT (mild_typeInfo t) fun i => ?_
 split <;> exact True.intro
theorem mild_sizeOf (t : TypeId) : MT P (sizeOf t) := mild_bindT (mild_typeInfo t) fun _ => True.intro
theorem mild_isAgg (t : TypeId) : MT P (isAgg t) := by
 unfold isAgg
 refine mild_bindT (mild_underlying t) fun i => ?_
 split <;> exact True.intro
theorem mild_asIntOf (v : Value) : MT P (asIntOf v) := by unfold asIntOf; split <;> exact True.intro
theorem mild_asInt (v : Value) : MT P (asInt v) := mild_bindT (mild_asIntOf v) fun _ => True.intro
theorem mild_asBool (v : Value) : MT P (asBool v) := by unfold asBool; split <;> exact True.intro
theorem mild_asString (v : Value) : MT P (asString v) := by unfold asString; split <;> exact True.intro
theorem mild_asAgg (v : Value) : MT P (asAgg v) := by unfold asAgg; split <;> exact True.intro
theorem mild_elemOf (t : TypeId) : MT P (elemOf t) := by
 unfold elemOf
 refine mild_bindT (mild_underlying t) fun i => ?_
 split <;> exact True.intro
theorem mild_newRow (e : TypeId) (c : Array Value) : MT P (newRow e c) := mild_bindT (mild_new True.intro) fun _ => True.intro
theorem mild_newVar (t : TypeId) (v : Value) : MT P (newVar t v) := mild_newRow _ _
theorem mild_rt {α : Type} (e : RuntimeError) : MT P (runtimePanic e : Sem α) := by
 unfold runtimePanic
 refine mild_bindT mild_program fun p => ?_
 cases e <;> first | exact True.intro | exact mild_bindT (mild_elemOf _) fun _ => mild_bindT (mild_newVar _ _) fun _ => True.intro
theorem rt_any {α : Type} {L : α → Prop} (e : RuntimeError) : Mild P L (runtimePanic e : Sem α) := by
 unfold runtimePanic
 refine mild_bindT mild_program fun p => ?_
 cases e <;> first | exact True.intro | exact mild_bindT (mild_elemOf _) fun _ => mild_bindT (mild_newVar _ _) fun _ => True.intro
theorem mild_bounds {α : Type} (k : IntKind) (x y : Int) (c : BoundsCode) : MT P (boundsPanic k x y c : Sem α) := by
 unfold boundsPanic
 dsimp only
 split
 ·exact mild_bindT (fun _ => True.intro) fun _ => mild_rt _
 ·exact mild_bindT True.intro fun _ => mild_rt _
theorem mild_asAddr (v : Value) : MT P (asAddr v) := by unfold asAddr; split <;> first | exact True.intro | exact mild_rt _
theorem mild_loadCellsFrom (a : Addr) (n : Nat) : ∀ (i : Nat) (acc : Array Value), MT P (loadCellsFrom a i n acc) := by
 induction n with
 | zero => exact fun _ _ => True.intro
 | succ n ih => exact fun i acc => mild_bindT (mild_load _ _) fun v => ih _ _
theorem mild_loadCells (a : Addr) (n : Nat) : MT P (loadCells a n) := mild_loadCellsFrom a n 0 _
theorem mild_storeCells (a : Addr) (vs : List Value) : ∀ i : Nat, MT P (storeCells a vs i) := by
 induction vs with
 | nil => exact fun _ => True.intro
 | cons v vs ih => exact fun i => mild_bindT (mild_store _ _ _) fun _ => ih _
theorem mild_loadVar (t : TypeId) (a : Addr) : MT P (loadVar t a) := by
 unfold loadVar
 refine mild_bindT (mild_isAgg t) fun b => ?_
 split
 ·exact mild_bindT (mild_sizeOf t) fun n => mild_bindT (mild_loadCells _ _) fun _ => True.intro
 ·exact mild_load _ _
theorem mild_storeVar (t : TypeId) (a : Addr) (v : Value) : MT P (storeVar t a v) := by
 unfold storeVar
 refine mild_bindT (mild_sizeOf t) fun n => ?_
 split
 ·exact True.intro
 ·exact mild_storeCells _ _ _
theorem mild_part (t : TypeId) (cs : Array Value) (o : Nat) : MT P (part t cs o) := by
 unfold part
 refine mild_bindT (mild_isAgg t) fun b => ?_
 split
 ·exact mild_bindT (mild_sizeOf t) fun _ => True.intro
 ·split <;> exact True.intro
theorem mild_viewAt (r : Nat) : MT P (viewAt r) := by
 unfold viewAt
 refine mild_bindT (mild_shape r) fun s => ?_
 split
 ·exact True.intro
 ·refine mild_getObj_bind (fun o _ => ?_) (.inr fun o ho => ?_)
  ·split <;> exact True.intro
  ·cases o <;> first | rfl | exact ho.elim
theorem mild_numberAt (r : Nat) : MT P (numberAt r) := by
 unfold numberAt
 refine mild_bindT (mild_shape r) fun s => ?_
 split
 ·exact True.intro
 ·refine mild_getObj_bind (fun o _ => ?_) (.inr fun o ho => ?_)
  ·split <;> exact True.intro
  ·cases o <;> first | rfl | exact ho.elim
theorem mild_noView (a : Addr) : MT P (noView a) := by
 unfold noView
 refine mild_bindT (mild_viewAt _) fun s => ?_
 split <;> exact True.intro
theorem mild_behind (n : Addr) : MT P (behindNumber n) := mild_bindT (mild_numberAt _) fun _ => True.intro
theorem mild_asNumber (a : Addr) (b : Bool) : MT P (asNumber a b) := mild_bindT (mild_new True.intro) fun _ => True.intro
theorem mild_byteOf (a : Addr) : MT P (byteOf a) := by
 unfold byteOf
 split
 ·exact True.intro
 ·refine mild_bindT mild_program fun p => mild_bindT (mild_noView a) fun _ => mild_bindT (mild_shape _) fun s => ?_
  split
  ·dsimp only
   split
   ·exact True.intro
   ·split <;> exact True.intro
  ·exact True.intro
theorem mild_partAt (a : Addr) (c b : Nat) : MT P (partAt a c b) := by
 exact mild_bindT (mild_byteOf _) fun _ => mild_bindT (mild_byteOf _) fun _ => True.intro
theorem mild_fieldPlace (a : Addr) (f : Field) : MT P (fieldPlace a f) := by
 unfold fieldPlace
 refine mild_bindT (mild_sizeOf _) fun n => ?_
 split
 ·exact mild_partAt _ _ _
 ·exact True.intro
theorem mild_askRoom (n : Nat) : MT P (askRoom n) := by unfold askRoom; split <;> first | exact True.intro | exact mild_noRoom
theorem mild_sureAddr (v : Value) : MT P (Instr.sureAddr v) := by
 unfold Instr.sureAddr
 repeat' first
  | exact True.intro
  | (refine mild_bindT ?_ fun _ => ?_)
  | split
  | dsimp only
theorem mild_alloc (e : TypeId) (h : Bool) (o : Value) : MT P (Instr.alloc e h o) := by
 unfold Instr.alloc
 repeat' first
  | exact True.intro
  | (with_reducible first | exact mild_zeroValue _ | exact mild_newVar _ _ | exact mild_storeVar _ _ _)
  | (refine mild_bindT ?_ fun _ => ?_)
  | split
  | dsimp only
theorem mild_box (e : TypeId) (v : Value) : MT P (Instr.box e v) := by
 unfold Instr.box
 repeat' first
  | exact True.intro
  | (with_reducible exact mild_newVar _ _)
  | (refine mild_bindT ?_ fun _ => ?_)
  | split
  | dsimp only
theorem mild_loadAt (t : TypeId) (v : Value) : MT P (Instr.loadAt t v) := by
 unfold Instr.loadAt
 repeat' first
  | exact True.intro
  | (with_reducible first | exact mild_loadVar _ _ | exact mild_sureAddr _)
  | (refine mild_bindT ?_ fun _ => ?_)
  | split
  | dsimp only
theorem mild_storeAt (t : TypeId) (a v : Value) : MT P (Instr.storeAt t a v) := by
 unfold Instr.storeAt
 repeat' first
  | exact True.intro
  | (with_reducible first | exact mild_storeVar _ _ _ | exact mild_sureAddr _)
  | (refine mild_bindT ?_ fun _ => ?_)
  | split
  | dsimp only
theorem mild_fieldAt (t : TypeId) (a : Value) (f : Nat) : MT P (Instr.fieldAt t a f) := by
 unfold Instr.fieldAt
 repeat' first
  | exact True.intro
  | (with_reducible first | exact mild_underlying _ | exact mild_fieldPlace _ _ | exact mild_sureAddr _)
  | (refine mild_bindT ?_ fun _ => ?_)
  | split
  | dsimp only
theorem mild_indexAt (t : TypeId) (x i : Value) : MT P (Instr.indexAt t x i) := by
 unfold Instr.indexAt
 repeat' first
  | exact True.intro
  | (with_reducible first | exact mild_underlying _ | exact mild_sizeOf _ | exact mild_asIntOf _ | exact mild_bounds _ _ _ _ | exact mild_sureAddr _)
  | (refine mild_bindT ?_ fun _ => ?_)
  | split
  | dsimp only
theorem mild_sliceBound (x : Value) (y : Nat) (c : BoundsCode) : MT P (Instr.sliceBound x y c) := by
 unfold Instr.sliceBound
 repeat' first
  | exact True.intro
  | (with_reducible first | exact mild_asIntOf _ | exact mild_bounds _ _ _ _)
  | (refine mild_bindT ?_ fun _ => ?_)
  | split
  | dsimp only
theorem mild_sliceBounds (b : Bool) (l c : Nat) (lo hi mx : Option Value) : MT P (Instr.sliceBounds b l c lo hi mx) := by
 unfold Instr.sliceBounds
 repeat' first
  | exact True.intro
  | (with_reducible exact mild_sliceBound _ _ _)
  | (refine mild_bindT ?_ fun _ => ?_)
  | split
  | dsimp only
theorem mild_slice (t : TypeId) (x : Value) (lo hi mx : Option Value) : MT P (Instr.slice t x lo hi mx) := by
 unfold Instr.slice
 repeat' first
  | exact True.intro
  | (with_reducible first | exact mild_underlying _ | exact mild_sizeOf _ | exact mild_asAddr _ | exact mild_sliceBounds _ _ _ _ _ _)
  | (refine mild_bindT ?_ fun _ => ?_)
  | split
  | dsimp only
theorem mild_sliceAt (t : TypeId) (x : Value) (lo hi mx : Option Value) : MT P (Instr.sliceAt t x lo hi mx) := by
 unfold Instr.sliceAt
 repeat' first
  | exact True.intro
  | (with_reducible first | exact mild_underlying _ | exact mild_sizeOf _ | exact mild_sureAddr _ | exact mild_sliceBounds _ _ _ _ _ _ | exact mild_slice _ _ _ _ _)
  | (refine mild_bindT ?_ fun _ => ?_)
  | split
  | dsimp only
theorem mild_field (t : TypeId) (x : Value) (f : Nat) : MT P (Instr.field t x f) := by
 unfold Instr.field
 repeat' first
  | exact True.intro
  | (with_reducible first | exact mild_underlying _ | exact mild_asAgg _ | exact mild_part _ _ _)
  | (refine mild_bindT ?_ fun _ => ?_)
  | split
  | dsimp only
theorem mild_index (t : TypeId) (x i : Value) : MT P (Instr.index t x i) := by
 unfold Instr.index
 repeat' first
  | exact True.intro
  | (with_reducible first | exact mild_underlying _ | exact mild_sizeOf _ | exact mild_asIntOf _ | exact mild_bounds _ _ _ _ | exact mild_part _ _ _)
  | (refine mild_bindT ?_ fun _ => ?_)
  | split
  | dsimp only
theorem mild_makeInterface (t : TypeId) (x : Value) : MT P (Instr.makeInterface t x) := by
 unfold Instr.makeInterface
 repeat' first
  | exact True.intro
  | (with_reducible exact mild_underlying _)
  | (refine mild_bindT ?_ fun _ => ?_)
  | split
  | dsimp only
theorem mild_makeFunc (f : Fn) (a b : Array Value) : MT P (Instr.makeFunc f a b) := by
 unfold Instr.makeFunc
 repeat' first
  | exact True.intro
  | (refine mild_bindT ?_ fun _ => ?_)
  | split
  | dsimp only
theorem mild_makeMap (t : TypeId) (r : Option Value) : MT P (Instr.makeMap t r) := by
 unfold Instr.makeMap
 repeat' first
  | exact True.intro
  | (with_reducible first | exact mild_underlying _ | exact mild_asInt _)
  | exact mild_new True.intro
  | (refine mild_bindT ?_ fun _ => ?_)
  | split
  | dsimp only
theorem mild_makeChan (t : TypeId) (s : Value) : MT P (Instr.makeChan t s) := by
 unfold Instr.makeChan
 repeat' first
  | exact True.intro
  | (with_reducible first | exact mild_typeInfo _ | exact mild_underlying _ | exact mild_asInt _)
  | exact mild_new True.intro
  | (refine mild_bindT ?_ fun _ => ?_)
  | split
  | dsimp only
theorem mild_makeSlice (t : TypeId) (l c : Value) : MT P (Instr.makeSlice t l c) := by
 unfold Instr.makeSlice
 repeat' first
  | exact True.intro
  | (with_reducible first | exact mild_typeInfo _ | exact mild_underlying _ | exact mild_zeroValue _ | exact mild_sizeOf _ | exact mild_choose _ | exact mild_asInt _ | exact mild_newRow _ _ | exact mild_askRoom _)
  | (refine mild_bindT ?_ fun _ => ?_)
  | split
  | dsimp only
theorem mild_extract (t : Value) (i : Nat) : MT P (Instr.extract t i) := by
 unfold Instr.extract
 repeat' first
  | exact True.intro
  | (refine mild_bindT ?_ fun _ => ?_)
  | split
  | dsimp only
theorem mild_mapM {α β : Type} (xs : List α) (f : α → Sem β) (h : ∀ a, MT P (f a)) : MT P (xs.mapM f) := by
 induction xs with
 | nil => exact True.intro
 | cons x xs ih =>
  rw [List.mapM_cons]
  exact mild_bindT (h x) fun _ => mild_bindT ih fun _ => True.intro
theorem mild_mapMA {α β : Type} (xs : Array α) (f : α → Sem β) (h : ∀ a, MT P (f a)) : MT P (xs.mapM f) := by
 rw [Array.mapM_eq_mapM_toList]
 exact mild_bindT (mild_mapM _ f h) fun _ => True.intro
theorem mild_build (t : TypeId) (ps : Array (Nat × Value)) : MT P (Instr.build t ps) := by
 unfold Instr.build
 repeat' first
  | exact True.intro
  | exact mild_zeroValue _ | exact mild_underlying _ | exact mild_sizeOf _
  | exact mild_mapMA _ _ fun _ => mild_bindT (mild_sizeOf _) fun _ => True.intro
  | (refine mild_bindT ?_ fun _ => ?_)
  | split
theorem mild_buildSlice (t : TypeId) (n : Nat) (ps : Array (Nat × Value)) : MT P (Instr.buildSlice t n ps) := by
 unfold Instr.buildSlice
 repeat' first
  | exact True.intro
  | (with_reducible first | exact mild_underlying _ | exact mild_zeroValue _ | exact mild_sizeOf _ | exact mild_newRow _ _)
  | (refine mild_bindT ?_ fun _ => ?_)
  | split
  | dsimp only
theorem mild_intDiv (op : BinOp) (k : IntKind) (x y : Int) : MT P (Op.intDiv op k x y) := by
 unfold Op.intDiv
 repeat' first
  | exact True.intro
  | (refine mild_bindT ?_ fun _ => ?_)
  | split
  | dsimp only
theorem mild_shift (op : BinOp) (k : IntKind) (x : Int) (j : IntKind) (y : Int) : MT P (Op.shift op k x j y) := by
 unfold Op.shift
 repeat' first
  | exact True.intro
  | (refine mild_bindT ?_ fun _ => ?_)
  | split
  | dsimp only
theorem mild_intCmp (op : BinOp) (x y : Int) : MT P (Op.intCmp op x y) := by
 unfold Op.intCmp
 repeat' first
  | exact True.intro
  | (refine mild_bindT ?_ fun _ => ?_)
  | split
  | dsimp only
theorem mild_stringOp (op : BinOp) (x y : ByteArray) : MT P (Op.stringOp op x y) := by
 unfold Op.stringOp
 repeat' first
  | exact True.intro
  | (refine mild_bindT ?_ fun _ => ?_)
  | split
  | dsimp only
theorem mild_floatArith (op : BinOp) (k : FloatKind) (x y : Nat) : MT P (Op.floatArith op k x y) := by
 unfold Op.floatArith
 repeat' first
  | exact True.intro
  | (with_reducible exact mild_choose _)
  | (refine mild_bindT ?_ fun _ => ?_)
  | split
  | dsimp only
theorem mild_floatCmp (op : BinOp) (k : FloatKind) (x y : Nat) : MT P (Op.floatCmp op k x y) := by
 unfold Op.floatCmp
 repeat' first
  | exact True.intro
  | (refine mild_bindT ?_ fun _ => ?_)
  | split
  | dsimp only
theorem mild_unary (op : UnOp) (x : Value) : MT P (Op.unary op x) := by
 unfold Op.unary
 repeat' first
  | exact True.intro
  | (refine mild_bindT ?_ fun _ => ?_)
  | split
  | dsimp only
theorem mild_floatToFloat (k : FloatKind) (x : Nat) (d : FloatKind) : MT P (Conv.floatToFloat k x d) := by
 unfold Conv.floatToFloat
 repeat' first
  | exact True.intro
  | (with_reducible exact mild_choose _)
  | (refine mild_bindT ?_ fun _ => ?_)
  | split
  | dsimp only
theorem mild_floatToInt (k : FloatKind) (x : Nat) (d : IntKind) : MT P (Conv.floatToInt k x d) := by
 unfold Conv.floatToInt
 repeat' first
  | exact True.intro
  | (with_reducible exact mild_choose _)
  | (refine mild_bindT ?_ fun _ => ?_)
  | split
  | dsimp only
theorem mild_carith (op : BinOp) (k : FloatKind) (x y : Nat) : MT P (Op.Complex.arith op k x y) := by
 unfold Op.Complex.arith
 repeat' first
  | exact True.intro
  | (with_reducible exact mild_floatArith _ _ _ _)
  | (refine mild_bindT ?_ fun _ => ?_)
  | split
  | dsimp only
theorem mild_cconv (k : FloatKind) (x : Nat) (d : FloatKind) : MT P (Op.Complex.conv k x d) := by
 unfold Op.Complex.conv
 repeat' first
  | exact True.intro
  | (with_reducible exact mild_floatToFloat _ _ _)
  | (refine mild_bindT ?_ fun _ => ?_)
  | split
  | dsimp only
theorem mild_cproduct (a b c d : Nat) : MT P (Op.Complex.product a b c d) := by
 unfold Op.Complex.product
 repeat' first
  | exact True.intro
  | (with_reducible exact mild_floatArith _ _ _ _)
  | (refine mild_bindT ?_ fun _ => ?_)
  | split
  | dsimp only
theorem mild_ccorrected (s a b c d : Nat) : MT P (Op.Complex.corrected s a b c d) := by
 unfold Op.Complex.corrected
 repeat' first
  | exact True.intro
  | (with_reducible exact mild_floatArith _ _ _ _)
  | (refine mild_bindT ?_ fun _ => ?_)
  | split
  | dsimp only
theorem mild_cquotient (a b c d : Nat) : MT P (Op.Complex.quotient a b c d) := by
 unfold Op.Complex.quotient
 repeat' first
  | exact True.intro
  | (with_reducible first | exact mild_floatArith _ _ _ _ | exact mild_ccorrected _ _ _ _ _)
  | (refine mild_bindT ?_ fun _ => ?_)
  | split
  | dsimp only
theorem mild_complexOp (op : BinOp) (k : FloatKind) (a b c d : Nat) : MT P (Op.complexOp op k a b c d) := by
 unfold Op.complexOp
 repeat' first
  | exact True.intro
  | (with_reducible first | exact mild_carith _ _ _ _ | exact mild_cconv _ _ _ | exact mild_cproduct _ _ _ _ | exact mild_cquotient _ _ _ _)
  | (refine mild_bindT ?_ fun _ => ?_)
  | split
  | dsimp only
theorem mild_follow : ∀ (l : List FieldStep) (t : TypeId) (x : Place), MT P (follow l t x)
 | [], _, _ => True.intro
 | s :: rest, t, x => by
  unfold follow
  repeat' first
   | exact True.intro
   | (with_reducible first | exact mild_underlying _ | exact mild_asAddr _ | exact mild_fieldPlace _ _ | exact mild_part _ _ _ | exact mild_follow _ _ _)
   | (refine mild_bindT ?_ fun _ => ?_)
   | split
   | (unfold Place.get; split <;> first | exact True.intro | exact mild_loadVar _ _)
theorem mild_get (t : TypeId) (x : Place) : MT P (x.get t) := by unfold Place.get; split <;> first | exact True.intro | exact mild_loadVar _ _
theorem mild_chk (a t : TypeId) (x : Value) (s s' : String) : MT P (Builtin.ssaWrapNilChk_ #[a] t #[x, strVal s, strVal s']) := by
 unfold Builtin.ssaWrapNilChk_ strVal
 cases x with
 | pointer p =>
  cases p with
  | some a => exact True.intro
  | none =>
   refine mild_bindT (mild_choose _) fun b => ?_
   dsimp only
   repeat' first
    | exact True.intro
    | (with_reducible first | exact mild_typeInfo _ | exact mild_underlying _ | exact mild_choose _)
    | (refine mild_bindT ?_ fun _ => ?_)
    | split
    | dsimp only
 | _ => exact True.intro
theorem mild_receiverAt (t : TypeId) (x : Place) (b : Bool) (w : Option String) : MT P (receiverAt t x b w) := by
 unfold receiverAt
 repeat' first
  | exact True.intro
  | (with_reducible first | exact mild_underlying _ | exact mild_asAddr _ | exact mild_loadVar _ _ | exact mild_get _ _ | exact mild_chk _ _ _ _ _)
  | (refine mild_bindT ?_ fun _ => ?_)
  | split
  | dsimp only
theorem mild_receiverVia (t : TypeId) (v : Value) (p : Array FieldStep) (b : Bool) : MT P (receiverVia t v p b) := by
 unfold receiverVia
 repeat' first
  | exact True.intro
  | (with_reducible first | exact mild_follow _ _ _ | exact mild_receiverAt _ _ _ _)
  | (refine mild_bindT ?_ fun _ => ?_)
  | split
  | dsimp only
theorem mild_method : ∀ (n : Nat) (t : TypeId) (v : Value) (s : String), MT P (method n t v s)
 | 0, _, _, _ => True.intro
 | n + 1, t, v, s => by
  unfold method
  repeat' first
   | exact True.intro
   | (with_reducible first | exact mild_typeInfo _ | exact mild_underlying _ | exact mild_zeroValue _ | exact mild_sizeOf _ | exact mild_isAgg _ | exact mild_load _ _ | exact mild_store _ _ _ | exact mild_program | exact mild_choose _ | exact mild_shape _ | exact mild_frozen _ | exact mild_asIntOf _ | exact mild_asInt _ | exact mild_asBool _ | exact mild_asString _ | exact mild_asAgg _ | exact mild_rt _ | exact rt_any _ | exact mild_asAddr _ | exact mild_bounds _ _ _ _ | exact mild_elemOf _ | exact mild_newRow _ _ | exact mild_newVar _ _ | exact mild_loadCells _ _ | exact mild_storeCells _ _ _ | exact mild_loadVar _ _ | exact mild_storeVar _ _ _ | exact mild_part _ _ _ | exact mild_viewAt _ | exact mild_numberAt _ | exact mild_noView _ | exact mild_behind _ | exact mild_asNumber _ _ | exact mild_byteOf _ | exact mild_fieldPlace _ _ | exact mild_noRoom | exact mild_askRoom _ | exact mild_sureAddr _ | exact mild_sliceBound _ _ _ | exact mild_sliceBounds _ _ _ _ _ _ | exact mild_slice _ _ _ _ _ | exact mild_intArith _ _ _ _ | exact mild_intDiv _ _ _ _ | exact mild_intBits _ _ _ _ | exact mild_shift _ _ _ _ _ | exact mild_intCmp _ _ _ | exact mild_stringOp _ _ _ | exact mild_floatArith _ _ _ _ | exact mild_floatCmp _ _ _ _ | exact mild_floatToFloat _ _ _ | exact mild_floatToInt _ _ _ | exact mild_intToInt _ _ | exact mild_carith _ _ _ _ | exact mild_ccmp _ _ _ _ | exact mild_cconv _ _ _ | exact mild_cproduct _ _ _ _ | exact mild_ccorrected _ _ _ _ _ | exact mild_cquotient _ _ _ _ | exact mild_complexOp _ _ _ _ _ _ | exact mild_get _ _ | exact mild_follow _ _ _ | exact mild_chk _ _ _ _ _ | exact mild_receiverAt _ _ _ _ | exact mild_receiverVia _ _ _ _)
   | exact mild_method n _ _ _
   | (refine mild_bindT ?_ fun _ => ?_)
   | split
   | dsimp only
theorem mild_followBlind : ∀ (l : List FieldStep) (t : TypeId) (x : Option Value), MT P (followBlind l t x)
 | [], _, _ => True.intro
 | s :: rest, t, x => by
  unfold followBlind
  repeat' first
   | exact True.intro
    | exact mild_followBlind rest _ _
   | (refine mild_bindT ?_ fun _ => ?_)
   | split
   | dsimp only
theorem mild_nilAhead : ∀ (n : Nat) (t : TypeId) (v : Value) (s : String), MT P (nilAhead n t v s)
 | 0, _, _, _ => True.intro
 | n + 1, t, v, s => by
  unfold nilAhead
  repeat' first
   | exact True.intro
   | (with_reducible first | exact mild_typeInfo _ | exact mild_underlying _ | exact mild_zeroValue _ | exact mild_sizeOf _ | exact mild_isAgg _ | exact mild_load _ _ | exact mild_store _ _ _ | exact mild_program | exact mild_choose _ | exact mild_shape _ | exact mild_frozen _ | exact mild_asIntOf _ | exact mild_asInt _ | exact mild_asBool _ | exact mild_asString _ | exact mild_asAgg _ | exact mild_rt _ | exact rt_any _ | exact mild_asAddr _ | exact mild_bounds _ _ _ _ | exact mild_elemOf _ | exact mild_newRow _ _ | exact mild_newVar _ _ | exact mild_loadCells _ _ | exact mild_storeCells _ _ _ | exact mild_loadVar _ _ | exact mild_storeVar _ _ _ | exact mild_part _ _ _ | exact mild_viewAt _ | exact mild_numberAt _ | exact mild_noView _ | exact mild_behind _ | exact mild_asNumber _ _ | exact mild_byteOf _ | exact mild_fieldPlace _ _ | exact mild_noRoom | exact mild_askRoom _ | exact mild_sureAddr _ | exact mild_sliceBound _ _ _ | exact mild_sliceBounds _ _ _ _ _ _ | exact mild_slice _ _ _ _ _ | exact mild_intArith _ _ _ _ | exact mild_intDiv _ _ _ _ | exact mild_intBits _ _ _ _ | exact mild_shift _ _ _ _ _ | exact mild_intCmp _ _ _ | exact mild_stringOp _ _ _ | exact mild_floatArith _ _ _ _ | exact mild_floatCmp _ _ _ _ | exact mild_floatToFloat _ _ _ | exact mild_floatToInt _ _ _ | exact mild_intToInt _ _ | exact mild_carith _ _ _ _ | exact mild_ccmp _ _ _ _ | exact mild_cconv _ _ _ | exact mild_cproduct _ _ _ _ | exact mild_ccorrected _ _ _ _ _ | exact mild_cquotient _ _ _ _ | exact mild_complexOp _ _ _ _ _ _ | exact mild_get _ _ | exact mild_follow _ _ _ | exact mild_chk _ _ _ _ _ | exact mild_receiverAt _ _ _ _ | exact mild_receiverVia _ _ _ _ | exact mild_followBlind _ _ _)
   | exact mild_nilAhead n _ _ _
   | (refine mild_bindT ?_ fun _ => ?_)
   | split
   | dsimp only
def okEq (P : Program) : Nat → TypeId → Bool
 | 0, _ => true
 | d + 1, t => match P.underlying t with
  | some (.int _) | some .bool | some .string => true
  | some (.struct fs) => fs.all fun f => okEq P d f.type
  | _ => false
theorem mild_forInM {α β : Type} (xs : Array α) (b : β) (f : α → β → Sem (ForInStep β)) (h : ∀ a ∈ xs, ∀ b, MT P (f a b)) : MT P (forIn xs b f) := by
 rw [← Array.forIn_toList]
 have key : ∀ (l : List α), (∀ a ∈ l, ∀ b, MT P (f a b)) → ∀ b, MT P (forIn l b f) := by
  intro l
  induction l with
  | nil => exact fun _ _ => True.intro
  | cons x xs ih =>
   intro hl b
   rw [List.forIn_cons]
   refine mild_bindT (hl x (by simp) b) fun r => ?_
   cases r with
   | done b => exact True.intro
   | yield b => exact ih (fun a ha => hl a (by simp [ha])) b
 exact key _ (fun a ha => h a (by simpa using ha)) b
theorem mild_equalIn : ∀ (n : Nat) (t : TypeId) (x y : Value), okEq P n t = true → MT P (Op.equalIn n t x y)
 | 0, _, _, _, _ => True.intro
 | n + 1, t, x, y, h => by
  unfold Op.equalIn
  refine mild_underlying_bind fun d hd => ?_
  unfold okEq at h
  rw [hd] at h
  cases d with
  | struct fs =>
   simp only at h
   have hf : ∀ f ∈ fs, okEq P n f.type = true := by
    intro f hf
    exact Array.all_eq_true_iff_forall_mem.1 h f hf
   split
   all_goals first
    | exact True.intro
    | (rename_i e; cases e; done)
    | skip
   rename_i e
   cases e
   refine mild_bindT mild_program fun _ => ?_
   split
   ·exact True.intro
   ·refine mild_bindT (mild_forInM _ _ _ fun f hm b => ?_) fun _ => ?_
    ·split
     ·refine mild_bindT (mild_part _ _ _) fun _ => mild_bindT (mild_part _ _ _) fun _ => mild_bindT (mild_equalIn n _ _ _ (hf f hm)) fun _ => ?_
      split <;> exact True.intro
     ·exact True.intro
    ·dsimp only
     split <;> exact True.intro
  | int _ | bool | string =>
   split
   all_goals first
    | exact True.intro
    | (rename_i e; cases e; done)
    | skip
   repeat' first
    | exact True.intro
    | (with_reducible first | exact mild_typeInfo _ | exact mild_underlying _ | exact mild_zeroValue _ | exact mild_sizeOf _ | exact mild_isAgg _ | exact mild_load _ _ | exact mild_store _ _ _ | exact mild_program | exact mild_choose _ | exact mild_shape _ | exact mild_frozen _ | exact mild_asIntOf _ | exact mild_asInt _ | exact mild_asBool _ | exact mild_asString _ | exact mild_asAgg _ | exact mild_rt _ | exact rt_any _ | exact mild_asAddr _ | exact mild_bounds _ _ _ _ | exact mild_elemOf _ | exact mild_newRow _ _ | exact mild_newVar _ _ | exact mild_loadCells _ _ | exact mild_storeCells _ _ _ | exact mild_loadVar _ _ | exact mild_storeVar _ _ _ | exact mild_part _ _ _ | exact mild_viewAt _ | exact mild_numberAt _ | exact mild_noView _ | exact mild_behind _ | exact mild_asNumber _ _ | exact mild_byteOf _ | exact mild_fieldPlace _ _ | exact mild_noRoom | exact mild_askRoom _ | exact mild_sureAddr _ | exact mild_sliceBound _ _ _ | exact mild_sliceBounds _ _ _ _ _ _ | exact mild_slice _ _ _ _ _ | exact mild_intArith _ _ _ _ | exact mild_intDiv _ _ _ _ | exact mild_intBits _ _ _ _ | exact mild_shift _ _ _ _ _ | exact mild_intCmp _ _ _ | exact mild_stringOp _ _ _ | exact mild_floatArith _ _ _ _ | exact mild_floatCmp _ _ _ _ | exact mild_floatToFloat _ _ _ | exact mild_floatToInt _ _ _ | exact mild_intToInt _ _ | exact mild_carith _ _ _ _ | exact mild_ccmp _ _ _ _ | exact mild_cconv _ _ _ | exact mild_cproduct _ _ _ _ | exact mild_ccorrected _ _ _ _ _ | exact mild_cquotient _ _ _ _ | exact mild_complexOp _ _ _ _ _ _ | exact mild_get _ _ | exact mild_follow _ _ _ | exact mild_chk _ _ _ _ _ | exact mild_receiverAt _ _ _ _ | exact mild_receiverVia _ _ _ _ | exact mild_followBlind _ _ _ | exact mild_method _ _ _ _ | exact mild_nilAhead _ _ _ _)
    | (refine mild_bindT ?_ fun _ => ?_)
    | split
    | dsimp only
  | _ => simp at h
theorem mild_eqGuardIn : ∀ (n : Nat) (t : TypeId) (x y : Value), okEq P n t = true → MT P (Op.eqGuardIn n t x y)
 | 0, _, _, _, _ => True.intro
 | n + 1, t, x, y, h => by
  unfold Op.eqGuardIn
  refine mild_underlying_bind fun d hd => ?_
  unfold okEq at h
  rw [hd] at h
  cases d with
  | struct fs =>
   simp only at h
   have hf : ∀ f ∈ fs, okEq P n f.type = true := by
    intro f hf
    exact Array.all_eq_true_iff_forall_mem.1 h f hf
   split
   all_goals first
    | exact True.intro
    | (rename_i e; cases e; done)
    | skip
   rename_i e
   cases e
   refine mild_bindT (mild_forInM _ _ _ fun f hm b => ?_) fun _ => ?_
   ·split
    ·refine mild_bindT (mild_part _ _ _) fun _ => mild_bindT (mild_part _ _ _) fun _ => mild_bindT (mild_eqGuardIn n _ _ _ (hf f hm)) fun _ => ?_
     split <;> exact True.intro
    ·exact True.intro
   ·dsimp only
    split <;> exact True.intro
  | int _ | bool | string =>
   split
   all_goals first
    | exact True.intro
    | (rename_i e; cases e; done)
  | _ => simp at h
theorem mild_eqGuard (op : BinOp) (t : TypeId) (a b : Operand) (x y : Value) (h : okEq P Op.maxDepth t = true) : MT P (eqGuard op t a b x y) := by
 unfold eqGuard
 repeat' first
  | exact True.intro
  | exact mild_program
  | exact mild_eqGuardIn _ _ _ _ h
  | (refine mild_bindT ?_ fun _ => ?_)
  | split
theorem mild_unsafeAdd (a : Array TypeId) (t : TypeId) (x y : Value) : MT P (Builtin.unsafeAdd_ a t #[x, y]) := by
 unfold Builtin.unsafeAdd_
 cases x <;> first | exact True.intro | skip
 dsimp only
 repeat' first
  | exact True.intro
  | (with_reducible first | exact mild_shape _ | exact mild_asInt _ | exact mild_viewAt _)
  | (refine mild_bindT ?_ fun _ => ?_)
  | split
  | dsimp only
theorem mild_movedNumber (t : TypeId) (x y : Value) : MT P (movedNumber t x y) := by
 unfold movedNumber
 repeat' first
  | exact True.intro
  | (with_reducible first | exact mild_underlying _ | exact mild_behind _ | exact mild_asNumber _ _ | exact mild_unsafeAdd _ _ _ _)
  | (refine mild_bindT ?_ fun _ => ?_)
  | split
  | dsimp only
theorem mild_movedPointer (t : TypeId) (x y : Value) : MT P (movedPointer t x y) := by
 unfold movedPointer
 repeat' first
  | exact True.intro
  | (with_reducible first | exact mild_numberAt _ | exact mild_unsafeAdd _ _ _ _)
  | (refine mild_bindT ?_ fun _ => ?_)
  | split
  | dsimp only
theorem mild_twoPlaces (a b : Addr) : MT P (Op.twoPlaces a b) := by
 unfold Op.twoPlaces
 repeat' first
  | exact True.intro
  | (with_reducible exact mild_byteOf _)
  | (refine mild_bindT ?_ fun _ => ?_)
  | split
  | dsimp only
theorem mild_addrSub (k : IntKind) (a b : Addr) : MT P (Op.addrSub k a b) := by
 unfold Op.addrSub
 repeat' first
  | exact True.intro
  | (with_reducible exact mild_twoPlaces _ _)
  | (refine mild_bindT ?_ fun _ => ?_)
  | split
  | dsimp only
theorem mild_addrCmp (op : BinOp) (a b : Addr) : MT P (Op.addrCmp op a b) := by
 unfold Op.addrCmp
 repeat' first
  | exact True.intro
  | (with_reducible exact mild_twoPlaces _ _)
  | (refine mild_bindT ?_ fun _ => ?_)
  | split
  | dsimp only
theorem mild_addrMod (k : IntKind) (a : Addr) (n : Int) : MT P (Op.addrMod k a n) := by
 unfold Op.addrMod
 repeat' first
  | exact True.intro
  | (with_reducible first | exact mild_typeInfo _ | exact mild_shape _ | exact mild_byteOf _)
  | (refine mild_bindT ?_ fun _ => ?_)
  | split
  | dsimp only
theorem mild_binOp (op : BinOp) (t : TypeId) (x y : Value) (h : okEq P Op.maxDepth t = true) : MT P (binOp op t x y) := by
 unfold binOp Op.equal
 repeat' first
  | exact True.intro
  | (with_reducible first | exact mild_underlying _ | exact mild_shape _ | exact mild_viewAt _ | exact mild_behind _ | exact mild_asNumber _ _ | exact mild_intDiv _ _ _ _ | exact mild_shift _ _ _ _ _ | exact mild_intCmp _ _ _ | exact mild_stringOp _ _ _ | exact mild_floatArith _ _ _ _ | exact mild_floatCmp _ _ _ _ | exact mild_complexOp _ _ _ _ _ _ | exact mild_unsafeAdd _ _ _ _ | exact mild_movedNumber _ _ _ | exact mild_movedPointer _ _ _ | exact mild_addrSub _ _ _ | exact mild_addrCmp _ _ _ | exact mild_addrMod _ _ _)
  | exact mild_equalIn _ _ _ _ h
  | (refine mild_bindT ?_ fun _ => ?_)
  | split
  | dsimp only
theorem mild_convert (a b : TypeId) (x : Value) (ka kb : IntKind) (ha : P.underlying a = some (.int ka)) (hb : P.underlying b = some (.int kb)) : MT P (convert a b x) := by
 unfold convert
 refine mild_underlying_bind fun d hd => mild_underlying_bind fun e he => ?_
 rw [ha] at hd
 rw [hb] at he
 cases hd
 cases he
 cases x <;> first | exact True.intro | exact mild_intToInt _ _ | exact mild_floatToInt _ _ _ | skip
 rename_i q
 cases q <;> exact True.intro
variable {P : Program}
theorem mild_ite {α : Type} {L : α → Prop} {c : Prop} [Decidable c] {a b : Sem α} (h1 : Mild P L a) (h2 : Mild P L b) : Mild P L (if c then a else b) := by
 split
 ·exact h1
 ·exact h2
theorem mild_mapUpdate (t : TypeId) (m k v : Value) (kt et : TypeId) (kk : IntKind) (ht : P.underlying t = some (.map kt et)) (hk : P.underlying kt = some (.int kk)) : MT P (Instr.mapUpdate t m k v) := by
 have hck : ∀ b, MT P (Instr.checkKey b 10000 kt k) := by
  intro b
  show MT P (Instr.checkKey b (9999 + 1) kt k)
  unfold Instr.checkKey
  refine mild_underlying_bind fun d hd => ?_
  rw [hk] at hd
  cases hd
  cases k <;> exact True.intro
 have hfk : ∀ es, MT P (Instr.findKey kt k es) := by
  intro es
  unfold Instr.findKey
  refine mild_bindT (mild_underlying _) fun d => ?_
  split
  ·exact True.intro
  ·have : ∀ (es : List MapEntry) (i : Nat), MT P (Instr.findAsking kt k es i) := by
    intro es
    induction es with
    | nil => exact fun _ => True.intro
    | cons e es ih =>
     intro i
     unfold Instr.findAsking Op.equal
     refine mild_bindT (mild_equalIn _ _ _ _ ?_) fun b => ?_
     ·show okEq P (9999 + 1) kt = true
      unfold okEq; rw [hk]
     ·split
      ·exact True.intro
      ·exact ih _
   exact this _ _
 unfold Instr.mapUpdate
 refine mild_underlying_bind fun d hd => ?_
 rw [ht] at hd
 cases hd
 dsimp only
 cases m with
 | map r =>
  cases r with
  | none => exact mild_rt _
  | some r =>
   refine mild_getObj_bind (fun o _ => ?_) (.inl True.intro)
   cases o with
   | map es clock =>
    refine mild_bindT (hck _) fun _ => mild_bindT (hfk _) fun r => ?_
    split
    ·refine mild_bindT ?_ fun _ => mild_setObj True.intro
     unfold Instr.keyThatStays
     split
     ·exact True.intro
     ·exact mild_bindT (mild_choose _) fun _ => True.intro
    ·exact mild_setObj True.intro
   | _ => exact True.intro
 | _ => exact True.intro
theorem mild_range (t : TypeId) (x : Value) : MT P (Instr.range t x) := by
 unfold Instr.range
 refine mild_bindT (mild_underlying _) fun d => ?_
 have hnew : ∀ o : Obj, Nice o → MT P (do pure (.pointer (some ⟨← newObj o, 0, none⟩)) : Sem Value) := fun o ho => mild_bindT (mild_new ho) fun _ => True.intro
 split
 ·exact hnew _ True.intro
 ·exact hnew _ True.intro
 ·refine mild_getObj_bind (fun o _ => ?_) (.inl True.intro)
  cases o with
  | map es clock => exact hnew _ True.intro
  | _ => exact True.intro
 ·exact True.intro
theorem mild_next (x : Value) (b : Bool) (t : TypeId) : MT P (Instr.next x b t) := by
 unfold Instr.next
 dsimp only
 split
 ·refine mild_getObj_bind (fun o _ => ?_) ?_
  ·cases o with
   | stringIter s pos =>
    cases b with
    | true =>
     dsimp only
     split
     ·exact mild_bindT (mild_setObj True.intro) fun _ => True.intro
     ·exact True.intro
    | false => exact True.intro
   | mapIter m since seen last =>
    cases b with
    | true => cases m <;> exact True.intro
    | false =>
     cases m with
     | none => exact True.intro
     | some m =>
      refine mild_getObj_bind (fun o _ => ?_) (.inl True.intro)
      cases o with
      | map es clock =>
       dsimp only
       split
       ·exact True.intro
       ·refine mild_bindT (mild_choose _) fun n => ?_
        split
        ·exact mild_bindT (mild_setObj True.intro) fun _ => True.intro
        ·exact True.intro
        ·exact True.intro
      | _ => exact True.intro
   | _ => cases b <;> exact True.intro
  ·cases b <;> exact .inl True.intro
 ·exact True.intro
theorem mild_holds (a : Addr) (n : Nat) : MT P (Builtin.holdsCells a n) := by
 unfold Builtin.holdsCells
 repeat' first
  | exact True.intro
  | (with_reducible first | exact mild_typeInfo _ | exact mild_underlying _ | exact mild_zeroValue _ | exact mild_sizeOf _ | exact mild_isAgg _ | exact mild_load _ _ | exact mild_store _ _ _ | exact mild_program | exact mild_choose _ | exact mild_shape _ | exact mild_frozen _ | exact mild_asIntOf _ | exact mild_asInt _ | exact mild_asBool _ | exact mild_asString _ | exact mild_asAgg _ | exact mild_rt _ | exact rt_any _ | exact mild_asAddr _ | exact mild_bounds _ _ _ _ | exact mild_elemOf _ | exact mild_newRow _ _ | exact mild_newVar _ _ | exact mild_loadCells _ _ | exact mild_storeCells _ _ _ | exact mild_loadVar _ _ | exact mild_storeVar _ _ _ | exact mild_part _ _ _ | exact mild_noRoom | exact mild_askRoom _)
  | (refine mild_bindT ?_ fun _ => ?_)
  | (refine mild_ite ?_ ?_)
  | split
  | dsimp only
theorem mild_mayShare (a b c : Nat) (d : Option Addr) (x : Value) : MT P (Builtin.mayShare a b c d x) := by
 unfold Builtin.mayShare
 repeat' first
  | exact True.intro
  | (with_reducible first | exact mild_typeInfo _ | exact mild_underlying _ | exact mild_zeroValue _ | exact mild_sizeOf _ | exact mild_isAgg _ | exact mild_load _ _ | exact mild_store _ _ _ | exact mild_program | exact mild_choose _ | exact mild_shape _ | exact mild_frozen _ | exact mild_asIntOf _ | exact mild_asInt _ | exact mild_asBool _ | exact mild_asString _ | exact mild_asAgg _ | exact mild_rt _ | exact rt_any _ | exact mild_asAddr _ | exact mild_bounds _ _ _ _ | exact mild_elemOf _ | exact mild_newRow _ _ | exact mild_newVar _ _ | exact mild_loadCells _ _ | exact mild_storeCells _ _ _ | exact mild_loadVar _ _ | exact mild_storeVar _ _ _ | exact mild_part _ _ _ | exact mild_noRoom | exact mild_askRoom _)
  | exact mild_holds _ _
  | (refine mild_bindT ?_ fun _ => ?_)
  | (refine mild_ite ?_ ?_)
  | split
  | dsimp only
theorem mild_lenOf (x : Value) : MT P (Builtin.lenOf x) := by unfold Builtin.lenOf; split <;> exact True.intro
theorem mild_firstCells (a b : Nat) (x : Value) : MT P (Builtin.firstCells a b x) := by unfold Builtin.firstCells; split <;> first | exact True.intro | exact mild_loadCells _ _
theorem mild_append (a : Array TypeId) (t : TypeId) (x : Array Value) : MT P (Builtin.append_ a t x) := by
 unfold Builtin.append_
 repeat' first
  | exact True.intro
  | (with_reducible first | exact mild_typeInfo _ | exact mild_underlying _ | exact mild_zeroValue _ | exact mild_sizeOf _ | exact mild_isAgg _ | exact mild_load _ _ | exact mild_store _ _ _ | exact mild_program | exact mild_choose _ | exact mild_shape _ | exact mild_frozen _ | exact mild_asIntOf _ | exact mild_asInt _ | exact mild_asBool _ | exact mild_asString _ | exact mild_asAgg _ | exact mild_rt _ | exact rt_any _ | exact mild_asAddr _ | exact mild_bounds _ _ _ _ | exact mild_elemOf _ | exact mild_newRow _ _ | exact mild_newVar _ _ | exact mild_loadCells _ _ | exact mild_storeCells _ _ _ | exact mild_loadVar _ _ | exact mild_storeVar _ _ _ | exact mild_part _ _ _ | exact mild_noRoom | exact mild_askRoom _)
  | exact mild_mayShare _ _ _ _ _ | exact mild_lenOf _ | exact mild_firstCells _ _ _
  | (refine mild_bindT ?_ fun _ => ?_)
  | (refine mild_ite ?_ ?_)
  | split
  | dsimp only
theorem mild_len (a : Array TypeId) (t : TypeId) (x : Array Value) : MT P (Builtin.len_ a t x) := by
 unfold Builtin.len_
 have hg : ∀ (r : Nat) (f : Obj → Sem Value), (∀ o, MT P (f o)) → Doomed (f (.coro none)) → MT P (getObj r >>= f) := fun r f h1 h2 => mild_getObj_bind (fun o _ => h1 o) (.inl h2)
 repeat' first
  | exact True.intro
  | exact mild_underlying _
  | (refine hg _ _ (fun o => ?_) True.intro)
  | (refine mild_bindT ?_ fun _ => ?_)
  | split
theorem mild_cap (a : Array TypeId) (t : TypeId) (x : Array Value) : MT P (Builtin.cap_ a t x) := by
 unfold Builtin.cap_
 have hg : ∀ (r : Nat) (f : Obj → Sem Value), (∀ o, MT P (f o)) → Doomed (f (.coro none)) → MT P (getObj r >>= f) := fun r f h1 h2 => mild_getObj_bind (fun o _ => h1 o) (.inl h2)
 repeat' first
  | exact True.intro
  | exact mild_underlying _
  | (refine hg _ _ (fun o => ?_) True.intro)
  | (refine mild_bindT ?_ fun _ => ?_)
  | split
theorem mild_copy (a : Array TypeId) (t : TypeId) (x : Array Value) : MT P (Builtin.copy_ a t x) := by
 unfold Builtin.copy_
 repeat' first
  | exact True.intro
  | (with_reducible first | exact mild_typeInfo _ | exact mild_underlying _ | exact mild_zeroValue _ | exact mild_sizeOf _ | exact mild_isAgg _ | exact mild_load _ _ | exact mild_store _ _ _ | exact mild_program | exact mild_choose _ | exact mild_shape _ | exact mild_frozen _ | exact mild_asIntOf _ | exact mild_asInt _ | exact mild_asBool _ | exact mild_asString _ | exact mild_asAgg _ | exact mild_rt _ | exact rt_any _ | exact mild_asAddr _ | exact mild_bounds _ _ _ _ | exact mild_elemOf _ | exact mild_newRow _ _ | exact mild_newVar _ _ | exact mild_loadCells _ _ | exact mild_storeCells _ _ _ | exact mild_loadVar _ _ | exact mild_storeVar _ _ _ | exact mild_part _ _ _ | exact mild_noRoom | exact mild_askRoom _)
  | exact mild_lenOf _ | exact mild_firstCells _ _ _
  | (refine mild_bindT ?_ fun _ => ?_)
  | (refine mild_ite ?_ ?_)
  | split
  | dsimp only
theorem mild_clear (a : Array TypeId) (t : TypeId) (x : Array Value) : MT P (Builtin.clear_ a t x) := by
 unfold Builtin.clear_
 have hg : ∀ (r : Nat) (f : Obj → Sem Value), (∀ o, MT P (f o)) → Doomed (f (.coro none)) → MT P (getObj r >>= f) := fun r f h1 h2 => mild_getObj_bind (fun o _ => h1 o) (.inl h2)
 repeat' first
  | exact True.intro
  | exact mild_underlying _ | exact mild_zeroValue _ | exact mild_storeCells _ _ _ | exact mild_setObj True.intro
  | (refine hg _ _ (fun o => ?_) True.intro)
  | (refine mild_bindT ?_ fun _ => ?_)
  | split
theorem mild_close (a : Array TypeId) (t : TypeId) (x : Array Value) : MT P (Builtin.close_ a t x) := by
 unfold Builtin.close_
 obtain ⟨l⟩ := x
 rcases l with _ | ⟨v, _ | ⟨u, l⟩⟩
 ·exact True.intro
 ·cases v with
  | chan c =>
   cases c with
   | none => exact mild_rt _
   | some r =>
    refine mild_getObj_bind (fun o ho => ?_) (.inl True.intro)
    cases o with
    | chan room buf closed s r tm =>
     dsimp only
     split
     ·exact mild_bindT (mild_rt _) fun _ => mild_bindT (mild_setObj True.intro) fun _ => True.intro
     ·exact mild_bindT (mild_setObj True.intro) fun _ => True.intro
    | _ => exact True.intro
  | _ => exact True.intro
 ·exact True.intro
theorem mild_panic (x : Value) : MT P (Instr.panic x) := by
 unfold Instr.panic
 split
 ·exact True.intro
 ·refine mild_bindT ?_ fun n => ?_
  ·unfold Instr.panicnil
   refine ⟨rfl, fun r => ?_⟩
   cases r <;> exact True.intro
  ·split
   ·exact True.intro
   ·exact mild_rt _
 ·exact True.intro
def Bare (P : Program) : Prop := ∀ (f : FuncId) (fn : Func), P.funcs[f]? = some fn → (fn.name == "runtime.NumGoroutine") = false ∧ (fn.body.isNone = true →
 Extern.findNext fn = none ∧ (∀ e, Extern.find fn = some e → ∀ args, MT P (e args)))
def okBuiltin : Builtin → Bool
 | .append | .cap | .clear | .close | .copy | .len | .panic | .recover => true
 | _ => false
def TameT : Target → Prop
 | .fn _ _ | .nil => True
 | .builtin b _ _ _ => okBuiltin b = true
 | _ => False
def Tame : Next → Prop
 | .value _ | .skip | .enter _ _ | .recover => True
 | .comm cs b _ => (∃ c, cs = #[c]) ∧ b = true
 | .defer d | .spawn d => TameT d.target
 | _ => False
abbrev MN (P : Program) (s : Sem Next) : Prop := Mild P Tame s
theorem mn_value {s : Sem Value} (h : MT P s) : MN P (do pure (.value (← s))) := Mild.bind (L := fun _ => True) h fun _ _ => True.intro
theorem mn_skip {s : Sem Unit} (h : MT P s) : MN P (do s; pure .skip) := Mild.bind (L := fun _ => True) h fun _ _ => True.intro
theorem mn_rt (e : RuntimeError) : MN P (runtimePanic e) := rt_any e
theorem mn_callFunc (hB : Bare P) (f : FuncId) (args : Array Value) : MN P (callFunc f args) := by
 have e : ∀ (k : Program → Sem Next), Mild P Tame (k P) → Mild P Tame (program >>= k) := fun k h => h
 unfold callFunc
 refine e _ ?_
 cases hf : P.funcs[f]? with
 | none => exact True.intro
 | some fn =>
  obtain ⟨h1, h2⟩ := hB f fn hf
  dsimp only
  rw [h1]
  simp only [Bool.false_eq_true, if_false]
  cases hb : fn.body.isNone with
  | false => exact True.intro
  | true =>
   obtain ⟨h3, h4⟩ := h2 hb
   simp only [if_true]
   refine ⟨⟨by simp, by simp⟩, ?_⟩
   rw [h3]
   simp only
   cases he : Extern.find fn with
   | some e => exact mn_value (h4 e he args)
   | none =>
    simp only
    split
    ·exact True.intro
    ·exact True.intro
theorem mn_callMethod (hB : Bare P) (r : Value) (s : String) (args : Array Value) : MN P (callMethod r s args) := by
 unfold callMethod
 cases r with
 | iface t v =>
  refine mild_bindT mild_program fun p => mild_bindT (mild_method _ _ _ _) fun q => ?_
  exact mn_callFunc hB _ _
 | nilIface => exact mn_rt _
 | _ => exact True.intro
theorem mn_yield (l : Nat) (args : Array Value) : MN P (Instr.yield l args) := by
 have e : Mild P (fun _ : Loop => False) (Instr.getLoop l) := by
  unfold Instr.getLoop
  refine mild_getObj_bind (fun o ho => ?_) (.inl True.intro)
  cases o <;> first | exact True.intro | exact (ho True.intro).elim
 unfold Instr.yield
 exact Mild.bind e fun _ h => h.elim
theorem mn_builtin {b : Builtin} (h : okBuiltin b = true) (a : Array TypeId) (t : TypeId) (c : Array Bool) (args : Array Value) : MN P (builtin b a t c args) := by
 unfold builtin
 cases b <;> first
  | exact mn_value (mild_append _ _ _) | exact mn_value (mild_cap _ _ _) | exact mn_value (mild_clear _ _ _) | exact mn_value (mild_close _ _ _)
  | exact mn_value (mild_copy _ _ _) | exact mn_value (mild_len _ _ _) | exact mn_value (mild_panic _) | exact True.intro | simp [okBuiltin] at h
theorem mn_fn (hB : Bare P) (fn : Fn) (c : Array Value) (args : Array Value) : MN P (invoke (.fn fn c) args) := by
 unfold invoke
 cases fn with
 | func f => exact mn_callFunc hB _ _
 | method name =>
  cases h : args[0]? with
  | none => exact True.intro
  | some r => exact mn_callMethod hB _ _ _
 | methodOf t name =>
  cases h : args[0]? with
  | none => exact True.intro
  | some r =>
   refine mild_bindT (mild_underlying _) fun d => ?_
   split <;> exact mn_callMethod hB _ _ _
 | via t path f ptr =>
  cases h : args[0]? with
  | none => exact True.intro
  | some r => exact mild_bindT (mild_receiverVia _ _ _ _) fun _ => mn_callFunc hB _ _
 | yield l => exact mn_yield _ _
theorem mn_invoke (hB : Bare P) {t : Target} (h : TameT t) (args : Array Value) : MN P (invoke t args) := by
 cases t with
 | fn f c => exact mn_fn hB f c args
 | nil => exact (rt_any _ : Mild P Tame (runtimePanic .nilDeref))
 | builtin b a t c => exact mn_builtin h _ _ _ _
 | _ => exact h.elim
def okCall (c : Call) : Bool := match c.callee with
 | .builtin b => okBuiltin b
 | _ => true
theorem mild_resolve {ρ : Operand → Value} {c : Call} {t : TypeId} (h : okCall c = true) : Mild P (fun d => TameT d.target) (resolve ρ c t) := by
 unfold resolve
 unfold okCall at h
 cases hc : c.callee with
 | builtin b => rw [hc] at h; exact h
 | invoke r n => exact True.intro
 | value f =>
  show Mild P _ (Deferred.ofValue (ρ f) _)
  unfold Deferred.ofValue
  split <;> exact True.intro
def okOp (P : Program) (o : Op) : Bool := match o with
 | .move _ | .assign _ | .pick _ _ _ | .alloc _ | .box _ _ | .build _ _ | .buildSlice _ _ _ | .load _ _ | .store _ _ _ | .nilCheck _ | .unOp _ _ _ | .makeInterface _ _ | .makeFunc _ _ _ | .makeMap _ _
 | .makeChan _ _ | .makeSlice _ _ _ | .slice _ _ _ _ _ | .fieldAddr _ _ _ | .field _ _ _ | .indexAddr _ _ _ | .index _ _ _ | .range _ _ | .next _ _ | .extract _ _ | .panic _ | .send _ _ | .recv _ _ _ => true
 | .binOp _ t _ _ _ => okEq P Op.maxDepth t
 | .convert a b _ => match P.underlying a, P.underlying b with
  | some (.int _), some (.int _) => true
  | _, _ => false
 | .mapUpdate t _ _ _ => match P.underlying t with
  | some (.map k _) => match P.underlying k with
   | some (.int _) => true
   | _ => false
  | _ => false
 | .call c | .go c | .defer c => okCall c
 | _ => false
theorem mn_execOp (hB : Bare P) (ρ : Operand → Value) (o : Oper) (h : okOp P o.op = true) : MN P (execOp ρ o) := by
 obtain ⟨dst, op, ty, pos, after, guard⟩ := o
 cases op with
 | move x => exact True.intro
 | assign x => exact True.intro
 | pick c a b =>
  show MN P (asBool (ρ c) >>= fun t => pure (.value (if t then ρ a else ρ b)))
  exact mild_bindT (mild_asBool _) fun _ => True.intro
 | alloc e => exact mn_value (mild_alloc _ _ _)
 | box e v => exact mn_value (mild_box _ _)
 | build t ps => exact mn_value (mild_build _ _)
 | buildSlice t n ps => exact mn_value (mild_buildSlice _ _ _)
 | load t a => exact mn_value (mild_loadAt _ _)
 | store t a x => exact mn_skip (mild_storeAt _ _ _)
 | nilCheck x =>
  show MN P (match ρ x with
   | .pointer none | .nilIface | .nilFunc => runtimePanic .nilDeref
   | .func (.method name) first captured =>
    match (first[0]? : Option Value) with
    | some .nilIface => runtimePanic .nilDeref
    | some (.iface t w) => do
     if (← nilAhead ((← program).types.size + Made.depth) t w name) != some false then
      unsupported (.noEntry "op/nilCheck.the method's receiver behind this interface value is a nil pointer, or cannot be seen to be none, and the arguments act or may panic (ledger 612)")
     pure (.value (.func (.method name) first captured))
    | _ => pure (.value (.func (.method name) first captured))
   | x => pure (.value x))
  split
  ·exact mn_rt _
  ·exact mn_rt _
  ·exact mn_rt _
  ·split
   ·exact mn_rt _
   ·refine mild_bindT mild_program fun p => mild_bindT (mild_nilAhead _ _ _ _) fun r => ?_
    split <;> exact True.intro
   ·exact True.intro
  ·exact True.intro
 | binOp bop t x y u => exact mn_value (mild_bindT (mild_eqGuard _ _ _ _ _ _ h) fun _ => mild_binOp _ _ _ _ h)
 | unOp uop t x => exact mn_value (mild_unary _ _)
 | convert a b x =>
  have h' : ∃ ka kb, P.underlying a = some (.int ka) ∧ P.underlying b = some (.int kb) := by
   unfold okOp at h
   simp only at h
   split at h
   ·exact ⟨_, _, by assumption, by assumption⟩
   ·cases h
  obtain ⟨ka, kb, ha, hb⟩ := h'
  exact mn_value (mild_convert a b _ ka kb ha hb)
 | makeInterface t x => exact mn_value (mild_makeInterface _ _)
 | makeFunc f a b => exact mn_value (mild_makeFunc _ _ _)
 | makeMap t r => exact mn_value (mild_makeMap _ _)
 | makeChan t n => exact mn_value (mild_makeChan _ _)
 | makeSlice t l c => exact mn_value (mild_makeSlice _ _ _)
 | slice t x lo hi mx => exact mn_value (mild_sliceAt _ _ _ _ _)
 | fieldAddr t x f => exact mn_value (mild_fieldAt _ _ _)
 | field t x f => exact mn_value (mild_field _ _ _)
 | indexAddr t x i => exact mn_value (mild_indexAt _ _ _)
 | index t x i => exact mn_value (mild_index _ _ _)
 | mapUpdate t m k v =>
  have h' : ∃ kt et kk, P.underlying t = some (.map kt et) ∧ P.underlying kt = some (.int kk) := by
   unfold okOp at h
   simp only at h
   split at h
   ·split at h
    ·exact ⟨_, _, _, by assumption, by assumption⟩
    ·cases h
   ·cases h
  obtain ⟨kt, et, kk, h1, h2⟩ := h'
  exact mn_skip (mild_mapUpdate _ _ _ _ kt et kk h1 h2)
 | range t x => exact mn_value (mild_range _ _)
 | next it b => exact mn_value (mild_next _ _ _)
 | extract t i => exact mn_value (mild_extract _ _)
 | call c => exact Mild.bind (mild_resolve h) fun d hd => mn_invoke hB hd _
 | go c => exact Mild.bind (mild_resolve (P := P) h) fun d hd => hd
 | defer c => exact Mild.bind (mild_resolve (P := P) h) fun d hd => hd
 | panic x => exact mn_value (mild_panic _)
 | send c x => exact ⟨⟨_, rfl⟩, rfl⟩
 | recv t c b =>
  refine mild_bindT (mild_underlying _) fun d => ?_
  cases d <;> first | exact True.intro | exact mild_bindT (mild_zeroValue _) fun _ => ⟨⟨_, rfl⟩, rfl⟩
 | _ => exact absurd h (by simp [okOp])
variable {P : Program}
open Extern
theorem mild_typeStr (t : TypeId) : MT P (typeStr t) := by
 unfold typeStr
 refine mild_bindT (mild_typeInfo _) fun x => ?_
 dsimp only
 split <;> exact True.intro
theorem mild_described (v : Value) : MT P (RuntimeError.described v) := by
 unfold RuntimeError.described
 refine mild_bindT mild_program fun p => ?_
 split
 ·exact True.intro
 ·exact mild_bindT (mild_typeStr _) fun _ => mild_bindT (mild_typeInfo _) fun _ => True.intro
 ·exact True.intro
theorem mild_bounds4 (k1 k2 k3 : IntKind) (x y c : Int) (b : Bool) : MT P (RuntimeError.boundsError #[.agg #[.int k1 x, .int k2 y, .bool b, .int k3 c]]) := by
 show MT P (match (if b && x < 0 then RuntimeError.boundsNegErrorFmts else RuntimeError.boundsErrorFmts)[c.toNat]? with
  | some fmt => RuntimeError.text ("runtime error: " ++ (fmt.replace "%x" (toString (if b then x else IntKind.u64.wrap x))).replace "%y" (toString y))
  | none => stuck "boundsError: no such code")
 split <;> exact True.intro
theorem mild_boundsError (args : Array Value) : MT P (RuntimeError.boundsError args) := by
 obtain ⟨l⟩ := args
 rcases l with _ | ⟨v, _ | ⟨_, _⟩⟩
 ·exact True.intro
 ·cases v with
  | agg vs =>
   obtain ⟨vs⟩ := vs
   rcases vs with _ | ⟨a, _ | ⟨b, _ | ⟨c, _ | ⟨d, _ | ⟨_, _⟩⟩⟩⟩⟩
   ·exact True.intro
   ·cases a <;> exact True.intro
   ·cases a <;> cases b <;> exact True.intro
   ·cases a <;> first | exact True.intro | (cases b <;> first | exact True.intro | (cases c <;> exact True.intro))
   ·cases a <;> first | exact True.intro | (cases b <;> first | exact True.intro | (cases c <;> first | exact True.intro | (cases d <;> first | exact True.intro | exact mild_bounds4 _ _ _ _ _ _ _)))
   ·cases a <;> first | exact True.intro | (cases b <;> first | exact True.intro | (cases c <;> first | exact True.intro | (cases d <;> exact True.intro)))
  | _ => exact True.intro
 ·cases v <;> exact True.intro
theorem mild_pkgpathOf (i : TypeInfo) : MT P (RuntimeError.pkgpathOf i) := by
 unfold RuntimeError.pkgpathOf
 split
 ·exact True.intro
 ·refine mild_bindT (mild_typeInfo _) fun x => ?_
  split <;> exact True.intro
 all_goals exact True.intro
theorem mild_typeAssertionError (args : Array Value) : MT P (RuntimeError.typeAssertionError args) := by
 unfold RuntimeError.typeAssertionError
 refine mild_bindT (mild_asAddr _) fun a => mild_bindT (mild_load _ _) fun _ => mild_bindT (mild_described _) fun _ => mild_bindT (mild_load _ _) fun _ => mild_bindT (mild_described _) fun _ => mild_bindT (mild_load _ _) fun _ => mild_bindT (mild_described _) fun o => ?_
 split
 ·refine mild_bindT (mild_load _ _) fun _ => mild_bindT (mild_asString _) fun _ => ?_
  split
  ·exact True.intro
  ·split
   ·exact True.intro
   ·dsimp only
    split
    ·exact True.intro
    ·refine mild_bindT (mild_pkgpathOf _) fun _ => mild_bindT (mild_pkgpathOf _) fun _ => ?_
     split <;> exact True.intro
 ·exact mild_rt _
theorem mild_unhashable (args : Array Value) : MT P (RuntimeError.unhashableTypeError args) := by
 obtain ⟨l⟩ := args
 rcases l with _ | ⟨v, _ | ⟨_, _⟩⟩
 ·exact True.intro
 ·cases v with
  | agg vs =>
   obtain ⟨vs⟩ := vs
   rcases vs with _ | ⟨a, _ | ⟨b, _⟩⟩
   ·exact True.intro
   ·refine mild_bindT (mild_described _) fun o => ?_
    split
    ·exact True.intro
    ·exact mild_rt _
   ·exact True.intro
  | _ => exact True.intro
 ·cases v <;> exact True.intro
theorem mild_rows : ∀ r ∈ RuntimeError.rows, ∀ args, MT P (r.2 args) := by
 intro r hr args
 simp only [RuntimeError.rows, List.mem_cons, List.not_mem_nil, or_false] at hr
 rcases hr with rfl | rfl | rfl | rfl | rfl | rfl | rfl | rfl | rfl | rfl | rfl | rfl | rfl | rfl | rfl
 ·exact mild_bindT (mild_asString _) fun _ => True.intro
 ·exact mild_bindT (mild_asString _) fun _ => True.intro
 ·exact mild_bindT (mild_asAgg _) fun _ => mild_bindT (mild_asString _) fun _ => True.intro
 ·exact mild_bindT (mild_asAgg _) fun _ => mild_bindT (mild_asInt _) fun _ => True.intro
 ·exact mild_boundsError _
 ·exact mild_typeAssertionError _
 ·exact True.intro
 ·exact mild_unhashable _
 all_goals exact True.intro
def KindRow (args : Array Value) : Sem Value := do pure (strVal (Rtype.kindName (← asInt (args.getD 0 (.tuple #[]))).toNat))
theorem mild_kind (args : Array Value) : MT P (KindRow args) := mild_bindT (mild_asInt _) fun _ => True.intro
def rowAt (k : Nat) : Array Value → Sem Value := ((RuntimeError.rows.map (·.2))[k]?).getD KindRow
theorem mild_rowAt (k : Nat) (args : Array Value) : MT P (rowAt k args) := by
 unfold rowAt
 cases h : (RuntimeError.rows.map (·.2))[k]? with
 | none => exact mild_kind _
 | some e =>
  have := List.mem_of_getElem? h
  simp only [List.mem_map] at this
  obtain ⟨r, hr, rfl⟩ := this
  exact mild_rows r hr _
theorem bare_of (P : Program) (rows : List Nat) (h1 : (P.funcs.all fun fn => (fn.name == "runtime.NumGoroutine") == false) = true)
  (h2 : (P.funcs.all fun fn => fn.body.isSome || (Extern.findNext fn).isNone) = true)
  (h3 : (P.funcs.toList.zipIdx.all fun x => x.1.body.isSome || (Extern.find x.1).isNone || rows.contains x.2) = true)
  (h4 : ∀ f ∈ rows, ∀ fn, P.funcs[f]? = some fn → ∃ k, Extern.find fn = some (rowAt k)) : Bare P := by
 intro f fn hf
 have hm : fn ∈ P.funcs := Array.mem_of_getElem? hf
 rw [Array.all_eq_true_iff_forall_mem] at h1 h2
 refine ⟨by simpa using h1 fn hm, fun hb => ?_⟩
 have hb' : fn.body.isSome = false := by cases h : fn.body <;> simp_all
 have h2' := h2 fn hm
 simp only [hb', Bool.false_or, Option.isNone_iff_eq_none] at h2'
 refine ⟨h2', fun e he args => ?_⟩
 rw [List.all_eq_true] at h3
 have h3' := h3 (fn, f) (by
  rw [List.mem_zipIdx_iff_getElem?]
  simpa using hf)
 simp only [hb', he, Option.isNone_some, Bool.false_or, Bool.or_false, List.contains_iff_mem] at h3'
 obtain ⟨k, hk⟩ := h4 f h3' fn hf
 rw [he] at hk
 obtain rfl := Option.some.inj hk
 exact mild_rowAt k args
variable {P : Program}
def AtLeast (n : Nat) : Stepped → Prop
 | .next m => n ≤ m.gs.size
 | .ended _ _ => True
theorem al_comm (rest : Rest) (gs : Array Goroutine) (i : Nat) (g : Goroutine) (cases : Array CommCase) (bl : Bool) (sh : CommShape) (w : World) : AtLeast gs.size (communicate P rest gs i g cases bl sh w).1 := by
 have hf : ∀ (h k : Nat) (v : Value), (finishPartner P gs h k v).size = gs.size := fun h k v => by simp [finishPartner]
 unfold communicate
 dsimp only
 split
 ·exact True.intro
 ·split
  ·split
   ·split
    ·show gs.size ≤ _; simp
    ·exact True.intro
   ·show gs.size ≤ _; simp
  ·split
   ·exact True.intro
   ·split
    ·split
     ·show gs.size ≤ _; simp
     ·exact True.intro
    ·show gs.size ≤ _; simp
    ·show gs.size ≤ _; simp
    ·split
     ·show gs.size ≤ _; simp
     ·split
      ·show gs.size ≤ _; simp [hf]
      ·exact True.intro
    ·show gs.size ≤ _; simp [hf]
    ·show gs.size ≤ _; simp [hf]
    ·exact True.intro
theorem al_giveWork (gs : Array Goroutine) (r : Option Nat) (items : List Item) (st : Bool) : gs.size ≤ (giveWork P gs r items st).1.size := by
 unfold giveWork
 dsimp only
 split <;> simp
theorem al_look (gs : Array Goroutine) (rest : Rest) (w : World) : AtLeast gs.size (look P gs rest w) := by
 unfold look
 split
 ·dsimp only
  split
  ·exact True.intro
  ·split
   ·exact True.intro
   ·split
    ·show gs.size ≤ _
     dsimp only
     split
     ·split
      ·exact Nat.le_refl _
      ·exact al_giveWork _ _ _ _
     ·refine Nat.le_trans ?_ (al_giveWork _ _ _ _)
      split
      ·exact Nat.le_refl _
      ·exact al_giveWork _ _ _ _
    ·exact True.intro
    ·exact True.intro
 ·exact True.intro
theorem al_timerOp {m m' : Machine} {op : TimerOp} {v : Value} (h : timerOp m op = .ok (v, m')) : m'.gs = m.gs := by
 unfold timerOp at h
 have hr : ∀ (mm : Machine) (k : Nat) (t : Timer) (a b : Nat), (retime mm k t a b).2.gs = mm.gs := fun mm k t a b => by unfold retime; rfl
 split at h
 ·split at h
  ·cases h; rfl
  ·split at h
   ·split at h
    ·cases h
    ·cases h; rfl
   ·cases h
 ·unfold timerOp.named at h
  split at h
  ·simp only [Except.ok.injEq] at h
   have := congrArg (fun x : Value × Machine => x.2.gs) h
   simp only [hr] at this
   exact this.symm
  ·cases h
 ·split at h
  ·rename_i m2 ho
   have hm2 : m2.gs = m.gs := by
    unfold timerOp.opened at ho
    split at ho
    ·split at ho <;> cases ho; rfl
    ·cases ho; rfl
   unfold timerOp.named at h
   split at h
   ·simp only [Except.ok.injEq] at h
    have := congrArg (fun x : Value × Machine => x.2.gs) h
    simp only [hr] at this
    exact this.symm.trans hm2
   ·cases h
  ·cases h
 ·cases h; rfl
theorem al_runT (m : Machine) (i : Nat) : AtLeast m.gs.size (runT P m i).1 := by
 have hsw : (m.gs.swapAt! i { (default : Goroutine) with status := .finished }).2.size = m.gs.size := by
  unfold Array.swapAt!
  split <;> simp [Array.swapAt]
 unfold runT
 dsimp only
 generalize hgs : (m.gs.swapAt! i { (default : Goroutine) with status := .finished }).2 = gs at hsw
 generalize (m.gs.swapAt! i { (default : Goroutine) with status := .finished }).1 = g
 rw [← hsw]
 split
 ·exact True.intro
 ·exact al_comm _ _ _ _ _ _ _ _
 ·show gs.size ≤ _
  dsimp only
  split <;> simp
 ·show gs.size ≤ _; simp
 ·split
  ·exact True.intro
  ·show gs.size ≤ _; simp
 ·show gs.size ≤ _; simp
 ·have := al_look (P := P) (gs.setIfInBounds i ‹Goroutine›) m.rest ‹World›
  simpa using this
 ·show gs.size ≤ _; simp
 ·show gs.size ≤ _; simp
 ·split
  ·show gs.size ≤ _; simp
  ·split
   ·rename_i h1
    have : ∀ (fr : Frame) (mm : String) (w : World) g' w' es, endThrow fr mm w = .go g' w' es → True := fun _ _ _ _ _ _ _ => trivial
    show gs.size ≤ _; simp
   ·exact True.intro
  ·exact True.intro
 ·split
  ·rename_i h1
   have := al_timerOp h1
   show gs.size ≤ _; simp [this]
  ·split
   ·show gs.size ≤ _; simp
   ·exact True.intro
  ·exact True.intro
  ·exact True.intro
end Go.Ov
namespace Go.Ov
open Go.Conc
variable {P : Program}
def okCode (P : Program) : Code → Bool
 | .skip | .exit _ | .label _ | .goto _ | .ret | .refuse _ => true
 | .region _ ops _ => ops.all fun o => okOp P o.op
 | .seq a b => okCode P a && okCode P b
 | .cond _ a b => okCode P a && okCode P b
 | .block _ c | .loop c | .scope c => okCode P c
 | .rangeFunc _ _ _ _ => false
def OkProg (P : Program) : Prop := ∀ (f : FuncId) (fn : Func) (c : Code), P.funcs[f]? = some fn → fn.body = some c → okCode P c = true
def OkItem (P : Program) : Item → Prop
 | .code c | .inLoop c | .inScope c => okCode P c = true
 | .inBlock _ => True
 | .inRegion ops _ => (ops.all fun o => okOp P o.op) = true
 | _ => False
structure OkFrame (P : Program) (fr : Frame) : Prop where
 todo : ∀ x ∈ fr.todo, OkItem P x
 defers : ∀ d ∈ fr.defers, TameT d.target
 round : fr.roundOf = none
 kind : fr.kind = .normal ∨ fr.kind = .deferred
theorem exitTo_ok {id : Nat} : ∀ {k k' : List Item}, (∀ x ∈ k, OkItem P x) → exitTo id k = some k' → ∀ x ∈ k', OkItem P x
 | [], _, _, h => by simp [exitTo] at h
 | y :: k, k', ho, h => by
  have hk : ∀ x ∈ k, OkItem P x := fun x hx => ho x (by simp [hx])
  cases y with
  | inBlock i =>
   simp only [exitTo] at h
   split at h
   ·cases h; exact hk
   ·exact exitTo_ok hk h
  | _ => exact exitTo_ok hk (by simpa [exitTo] using h)
theorem findLabel_ok {l : Nat} : ∀ {c r : Code}, okCode P c = true → findLabel c l = some r → okCode P r = true
 | .seq a b, r, h, e => by
  have h' : okCode P a = true ∧ okCode P b = true := by simpa [okCode] using h
  simp only [findLabel] at e
  cases ha : findLabel a l with
  | some x =>
   rw [ha] at e
   cases e
   have := findLabel_ok h'.1 ha
   simp [okCode, this, h'.2]
  | none => rw [ha] at e; exact findLabel_ok h'.2 e
 | .label l', r, h, e => by
  simp only [findLabel] at e
  split at e <;> cases e
  rfl
 | .skip, _, _, e | .region _ _ _, _, _, e | .cond _ _ _, _, _, e | .block _ _, _, _, e | .loop _, _, _, e | .rangeFunc _ _ _ _, _, _, e | .exit _, _, _, e | .scope _, _, _, e | .goto _, _, _, e | .ret, _, _, e | .refuse _, _, _, e => by simp [findLabel] at e
theorem gotoIn_ok {l : Nat} : ∀ {k k' : List Item}, (∀ x ∈ k, OkItem P x) → gotoIn l k = some k' → ∀ x ∈ k', OkItem P x
 | [], _, _, h => by simp [gotoIn] at h
 | y :: k, k', ho, h => by
  have hk : ∀ x ∈ k, OkItem P x := fun x hx => ho x (by simp [hx])
  cases y with
  | inScope body =>
   simp only [gotoIn] at h
   cases hf : findLabel body l with
   | some rest =>
    rw [hf] at h
    cases h
    have hb : okCode P body = true := ho (.inScope body) (by simp)
    intro x hx
    simp only [List.mem_cons] at hx
    rcases hx with rfl | rfl | hx
    ·exact findLabel_ok hb hf
    ·exact hb
    ·exact hk x hx
   | none => rw [hf] at h; exact gotoIn_ok hk h
  | _ => exact gotoIn_ok hk (by simpa [gotoIn] using h)
theorem foldl_sub (f : Bool × Array Event → Event → Bool × Array Event) (es : Array Event) (hf : ∀ x e, ∀ y ∈ (f x e).2, y ∈ x.2 ∨ y = e) :
  ∀ (l : List Event) (x : Bool × Array Event), (∀ y ∈ x.2, y ∈ es) → (∀ y ∈ l, y ∈ es) → ∀ y ∈ (l.foldl f x).2, y ∈ es
 | [], _, hx, _ => hx
 | e :: l, x, hx, hl => foldl_sub f es hf l (f x e) (fun y hy => (hf x e y hy).elim (hx y) fun h => h ▸ hl e (by simp)) fun y hy => hl y (by simp [hy])
theorem seen_sub {fn : FuncId} {es : Array Event} {e : Event} (h : e ∈ seen P fn es) : e ∈ es := by
 dsimp only [seen] at h
 rw [← Array.foldl_toList] at h
 refine foldl_sub _ es ?_ es.toList _ (by simp) (fun y hy => by simpa using hy) e h
 rintro ⟨q, kept⟩ e y hy
 dsimp only at hy ⊢
 split at hy
 ·exact .inl hy
 ·dsimp only at hy
  split at hy
  ·exact .inl hy
  ·exact (Array.mem_push.1 hy).imp id id
structure GoO (P : Program) (fr : Frame) (new : List Frame) (w0 : World) (fr' : Frame) (new' : List Frame) (w1 : World) (es : Array Event) (n : Nat) : Prop where
 plain : PlainW w1
 tape : w1.tape = w0.tape
 drawn : w1.drawn = w0.drawn + n
 grows : w0.heap.size ≤ w1.heap.size
 evs : ∀ e ∈ es, MildEv e
 here : ∀ (cs : List Frame) (main : Bool), stepG P main (G fr (new ++ cs)) w0 = .go (G fr' (new' ++ cs)) w1 es
 over : ∀ (cs : List Frame) (main : Bool) (Z : Nat → Prop) (w : World), Over Z w w0 → Agree w.tape w.drawn w0.tape w0.drawn n →
  ∃ w', stepG P main (G fr (new ++ cs)) w = .go (G fr' (new' ++ cs)) w' es ∧ Over Z w' w1 ∧ w'.tape = w.tape ∧ w'.drawn = w.drawn + n ∧ ∀ b : Nat, w1.heap[b]? = some (Obj.coro none) → w0.heap[b]? = some (Obj.coro none) ∧ w'.heap[b]? = w.heap[b]?
structure CommO (P : Program) (fr : Frame) (new : List Frame) (w0 : World) (cases : Array CommCase) (bl : Bool) (sh : CommShape) (w1 : World) (es : Array Event) (n : Nat) : Prop where
 plain : PlainW w1
 tape : w1.tape = w0.tape
 drawn : w1.drawn = w0.drawn + n
 grows : w0.heap.size ≤ w1.heap.size
 evs : ∀ e ∈ es, MildEv e
 here : ∀ (cs : List Frame) (main : Bool), stepG P main (G fr (new ++ cs)) w0 = .comm (G fr (new ++ cs)) cases bl sh w1 es
 over : ∀ (cs : List Frame) (main : Bool) (Z : Nat → Prop) (w : World), Over Z w w0 → Agree w.tape w.drawn w0.tape w0.drawn n →
  ∃ w', stepG P main (G fr (new ++ cs)) w = .comm (G fr (new ++ cs)) cases bl sh w' es ∧ Over Z w' w1 ∧ w'.tape = w.tape ∧ w'.drawn = w.drawn + n ∧ ∀ b : Nat, w1.heap[b]? = some (Obj.coro none) → w0.heap[b]? = some (Obj.coro none) ∧ w'.heap[b]? = w.heap[b]?
def Fatal' (g : Goroutine) : Prop := ∃ d f, g.dying = some d ∧ d.calling = false ∧ d.fatal = some f
inductive StepKind (P : Program) (fr : Frame) (new : List Frame) (w0 : World) : Prop
 | go (fr' : Frame) (new' : List Frame) (w1 : World) (es : Array Event) (n : Nat) (h : GoO P fr new w0 fr' new' w1 es n) (ok : OkFrame P fr') (oks : ∀ f ∈ new', OkFrame P f) (bot : (new'.getLast?.getD fr').kind = .normal)
 | comm (cases : Array CommCase) (bl : Bool) (sh : CommShape) (w1 : World) (es : Array Event) (n : Nat) (h : CommO P fr new w0 cases bl sh w1 es n) (run : fr.mode = .run) (one : (∃ c, cases = #[c]) ∧ bl = true) (reg : ∃ ops i rest k, fr.todo = .inRegion ops (i :: rest) :: k)
 | odd (h : ∀ (cs : List Frame) (main : Bool), (∃ g child w es, stepG P main (G fr (new ++ cs)) w0 = .spawn g child w es) ∨ ∃ g w es, stepG P main (G fr (new ++ cs)) w0 = .go g w es ∧ Fatal' g ∧ (g.status = .running ∨ g.status = .blocked))
 | ended (h : ∀ (cs : List Frame) (main : Bool), ∃ o w es, stepG P main (G fr (new ++ cs)) w0 = .ended o w es)
 | leave (h : new = []) (m : fr.mode ≠ .run) (d : fr.defers = [])
section
variable {fr : Frame} {new : List Frame} {w0 : World}
theorem goO_ctl {fr' : Frame} {new' : List Frame} (hp : PlainW w0) (h : ∀ (cs : List Frame) (main : Bool) (w : World), stepG P main (G fr (new ++ cs)) w = .go (G fr' (new' ++ cs)) w) : GoO P fr new w0 fr' new' w0 #[] 0 :=
 ⟨hp, rfl, rfl, Nat.le_refl _, by simp, fun cs main => h cs main w0, fun cs main Z w hw _ => ⟨w, h cs main w, hw, rfl, rfl, fun _ hb => ⟨hb, rfl⟩⟩⟩
theorem goO_ran {α : Type} {L : α → Prop} {s : Sem α} {t : Tag α} {w1 : World} {es1 es : Array Event} {n : Nat} {fr' : Frame} {new' : List Frame} (r : Ran P L s w0 #[] t w1 es1 n) (hes : ∀ e ∈ es, e ∈ es1)
  (h : ∀ (cs : List Frame) (main : Bool) (w w' : World), s.runT P w #[] = (t.res w', es1) → stepG P main (G fr (new ++ cs)) w = .go (G fr' (new' ++ cs)) w' es) : GoO P fr new w0 fr' new' w1 es n :=
 ⟨r.plain, r.tape, r.drawn, r.grows, fun e he => (r.evs e (hes e he)).resolve_left (by simp), fun cs main => h cs main w0 w1 r.run, fun cs main Z w hw ha => by
  obtain ⟨w', h1, h2, h3, h4, h5⟩ := r.over Z w hw ha
  exact ⟨w', h cs main w w' h1, h2, h3, h4, h5⟩⟩
theorem commO_ran {α : Type} {L : α → Prop} {s : Sem α} {t : Tag α} {w1 : World} {es1 es : Array Event} {n : Nat} {cases : Array CommCase} {bl : Bool} {sh : CommShape} (r : Ran P L s w0 #[] t w1 es1 n) (hes : ∀ e ∈ es, e ∈ es1)
  (h : ∀ (cs : List Frame) (main : Bool) (w w' : World), s.runT P w #[] = (t.res w', es1) → stepG P main (G fr (new ++ cs)) w = .comm (G fr (new ++ cs)) cases bl sh w' es) : CommO P fr new w0 cases bl sh w1 es n :=
 ⟨r.plain, r.tape, r.drawn, r.grows, fun e he => (r.evs e (hes e he)).resolve_left (by simp), fun cs main => h cs main w0 w1 r.run, fun cs main Z w hw ha => by
  obtain ⟨w', h1, h2, h3, h4, h5⟩ := r.over Z w hw ha
  exact ⟨w', h cs main w w' h1, h2, h3, h4, h5⟩⟩
theorem stepG_run (h : fr.mode = .run) (cs : List Frame) (main : Bool) (w : World) : stepG P main (G fr cs) w = stepG.exec P main true fr cs none w := by
 simp [stepG, G, h]
theorem stepG_unw (h : fr.mode ≠ .run) (cs : List Frame) (main : Bool) (w : World) : stepG P main (G fr cs) w = unwind P main fr cs none w := by
 cases hm : fr.mode with
 | run => exact absurd hm h
 | returning => simp [stepG, G, hm]
 | panicking c => simp [stepG, G, hm]
theorem OkFrame.to (ok : OkFrame P fr) {k : List Item} (hk : ∀ x ∈ k, OkItem P x) : OkFrame P { fr with todo := k } := ⟨hk, ok.defers, ok.round, ok.kind⟩
theorem bot_same {fr' : Frame} (bot : (new.getLast?.getD fr).kind = .normal) (h : fr'.kind = fr.kind) : (new.getLast?.getD fr').kind = .normal := by
 cases new with
 | nil => simpa [h] using bot
 | cons a l =>
  have e : ∀ x : Frame, (a :: l).getLast?.getD x = (a :: l).getLast (by simp) := fun x => by simp [List.getLast?_eq_some_getLast]
  rw [e] at bot ⊢; exact bot
theorem finish_ok (ok : OkFrame P fr) (v : Value) : OkFrame P (fr.finish v) := by
 unfold Frame.finish
 split
 ·rename_i ops i rest k heq
  refine ⟨fun x hx => ?_, ok.defers, ok.round, ok.kind⟩
  have h1 := ok.todo (.inRegion ops (i :: rest)) (by rw [heq]; simp)
  simp only [List.mem_cons] at hx
  rcases hx with rfl | hx
  ·exact h1
  ·exact ok.todo x (by rw [heq]; simp [hx])
 ·rename_i heq; exact absurd (ok.todo _ (by rw [heq]; exact List.mem_cons_self)) id
 ·rename_i heq; exact absurd (ok.todo _ (by rw [heq]; exact List.mem_cons_self)) id
 ·rename_i heq; exact absurd (ok.todo _ (by rw [heq]; exact List.mem_cons_self)) id
 ·rename_i heq; exact absurd (ok.todo _ (by rw [heq]; exact List.mem_cons_self)) id
 ·exact ok
theorem finish_kind (fr : Frame) (v : Value) : (fr.finish v).kind = fr.kind := by
 unfold Frame.finish; split <;> rfl
theorem raise_ok (ok : OkFrame P fr) (vs : List PanicEntry) : OkFrame P (fr.raise vs) := by
 unfold Frame.raise
 split <;> exact ⟨ok.todo, ok.defers, ok.round, ok.kind⟩
theorem raise_kind (fr : Frame) (vs : List PanicEntry) : (fr.raise vs).kind = fr.kind := by
 unfold Frame.raise; split <;> rfl
theorem enter_ok (hP : OkProg P) (f : FuncId) (args : Array Value) {k : CallKind} (hk : k = .normal ∨ k = .deferred) : OkFrame P (Frame.enter P f args k) := by
 refine ⟨fun x hx => ?_, by simp [Frame.enter], rfl, hk⟩
 simp only [Frame.enter, List.mem_singleton] at hx
 subst hx
 show okCode P _ = true
 cases hf : P.funcs[f]? with
 | none => rfl
 | some fn =>
  cases hb : fn.body with
  | none => simp [hb, okCode]
  | some c => simpa [hb] using hP f fn c hf hb
end
variable {P : Program} {fr : Frame} {new : List Frame} {w0 : World}
theorem bot_push {fr' : Frame} (bot : (new.getLast?.getD fr).kind = .normal) : ((fr :: new).getLast?.getD fr').kind = .normal := by
 cases new with
 | nil => simpa using bot
 | cons a l =>
  have e : ∀ x : Frame, (a :: l).getLast?.getD x = (a :: l).getLast (by simp) := fun x => by simp [List.getLast?_eq_some_getLast]
  have e2 : (fr :: a :: l).getLast?.getD fr' = (a :: l).getLast (by simp) := by simp [List.getLast?_eq_some_getLast]
  rw [e] at bot; rw [e2]; exact bot
theorem bot_pop {c fr' : Frame} {rest : List Frame} (bot : ((c :: rest).getLast?.getD fr).kind = .normal) (h : fr'.kind = c.kind) : (rest.getLast?.getD fr').kind = .normal := by
 cases rest with
 | nil => simpa [h] using bot
 | cons a l =>
  have e : ∀ x : Frame, (a :: l).getLast?.getD x = (a :: l).getLast (by simp) := fun x => by simp [List.getLast?_eq_some_getLast]
  have e2 : (c :: a :: l).getLast?.getD fr = (a :: l).getLast (by simp) := by simp [List.getLast?_eq_some_getLast]
  rw [e2] at bot; rw [e]; exact bot
theorem recover_ok {v : Value} {cs' : List Frame} {tail : List Frame} (oks : ∀ f ∈ new, OkFrame P f) (hk : fr.kind = .normal ∨ fr.kind = .deferred) (bot : (new.getLast?.getD fr).kind = .normal) :
  (tryRecover fr (new ++ tail) = none ∧ ∀ t, tryRecover fr (new ++ t) = none) ∨
  ∃ v new', (∀ t, tryRecover fr (new ++ t) = some (v, new' ++ t)) ∧ (∀ f ∈ new', OkFrame P f) ∧ (∀ fr' : Frame, fr'.kind = fr.kind → (new'.getLast?.getD fr').kind = .normal) ∧ new' ≠ [] := by
 rcases hk with hk | hk
 ·exact .inl ⟨by simp [tryRecover, hk], fun t => by simp [tryRecover, hk]⟩
 ·cases new with
  | nil => simp [hk] at bot
  | cons c rest =>
   cases hm : c.mode with
   | panicking chain =>
    match chain, hm with
    | { v := v, recovered := false, goexit := false } :: older, hm =>
     refine .inr ⟨v, { c with mode := .panicking ({ v, recovered := true } :: older) } :: rest, fun t => by simp [tryRecover, hk, hm], ?_, ?_, by simp⟩
     ·intro f hf
      simp only [List.mem_cons] at hf
      rcases hf with rfl | hf
      ·have := oks c (by simp)
       exact ⟨this.todo, this.defers, this.round, this.kind⟩
      ·exact oks f (by simp [hf])
     ·intro fr' _
      have h1 := bot_pop (fr' := { c with mode := .panicking ({ v, recovered := true } :: older) }) bot rfl
      exact bot_push h1
    | [], hm => exact .inl ⟨by simp [tryRecover, hk, hm], fun t => by simp [tryRecover, hk, hm]⟩
    | { v := _, recovered := true, goexit := _ } :: _, hm => exact .inl ⟨by simp [tryRecover, hk, hm], fun t => by simp [tryRecover, hk, hm]⟩
    | { v := _, recovered := false, goexit := true } :: _, hm => exact .inl ⟨by simp [tryRecover, hk, hm], fun t => by simp [tryRecover, hk, hm]⟩
   | run => exact .inl ⟨by simp [tryRecover, hk, hm], fun t => by simp [tryRecover, hk, hm]⟩
   | returning => exact .inl ⟨by simp [tryRecover, hk, hm], fun t => by simp [tryRecover, hk, hm]⟩
theorem ite_holds {α : Type} {c : Prop} [Decidable c] {A B : α} {p : α → Prop} (h1 : p A) (h2 : p B) : p (if c then A else B) := by
 split
 ·exact h1
 ·exact h2
theorem step_apply (hB : Bare P) (hP : OkProg P) (ok : OkFrame P fr) (oks : ∀ f ∈ new, OkFrame P f) (bot : (new.getLast?.getD fr).kind = .normal) (hp : PlainW w0) (hm : fr.mode = .run)
  {ops : Array Oper} {i : Nat} {rest : List Nat} {k : List Item} (ht : fr.todo = .inRegion ops (i :: rest) :: k) {s : Sem Next} (hs : MN P s)
  (hst : ∀ (cs : List Frame) (main : Bool) (w : World), stepG P main (G fr cs) w = stepG.apply P true fr cs none s w) : StepKind P fr new w0 := by
 have hne : (fr.kind == CallKind.early) = false := by rcases ok.kind with h | h <;> rw [h] <;> rfl
 rcases run_over s hs w0 #[] hp with hr | ⟨t, w1, es1, n, r⟩
 ·
  refine .ended fun cs main => ?_
  rw [hst]
  simp only [stepG.apply, if_true, hne, Bool.false_eq_true, if_false]
  rcases hrun : s.runT P w0 #[] with ⟨x, es⟩
  rw [hrun] at hr
  cases x with
  | ok a w => exact hr.elim
  | halt h w =>
   cases h with
   | stuck y => exact ⟨_, _, _, rfl⟩
   | unsupported u =>
    cases u <;> first | exact ⟨_, _, _, rfl⟩ | exact hr.elim
   | _ => exact hr.elim
 ·cases t with
  | pan v =>
   refine .go (fr.raise [{ v, recovered := false }]) new w1 (seen P fr.fn es1) n (goO_ran r (fun e he => seen_sub he) fun cs main w w' hw => ?_) (raise_ok ok _) oks (bot_same bot (raise_kind _ _))
   rw [hst]
   simp only [stepG.apply, if_true, hne, Bool.false_eq_true, if_false, hw, Tag.res, GStep.after, Array.append_empty]; rfl
  | ok x =>
   have hl : Tame x := r.leaf
   cases x with
   | value v =>
    refine .go (fr.finish v) new w1 (seen P fr.fn es1) n (goO_ran r (fun e he => seen_sub he) fun cs main w w' hw => ?_) (finish_ok ok v) oks (bot_same bot (finish_kind _ _))
    rw [hst]
    simp only [stepG.apply, if_true, hne, Bool.false_eq_true, if_false, hw, Tag.res, GStep.after, Array.append_empty]; rfl
   | skip =>
    refine .go (fr.finish undef) new w1 (seen P fr.fn es1) n (goO_ran r (fun e he => seen_sub he) fun cs main w w' hw => ?_) (finish_ok ok _) oks (bot_same bot (finish_kind _ _))
    rw [hst]
    simp only [stepG.apply, if_true, hne, Bool.false_eq_true, if_false, hw, Tag.res, GStep.after, Array.append_empty]; rfl
   | enter f args =>
    refine .go (Frame.enter P f args .normal) (fr :: new) w1 (seen P fr.fn es1) n (goO_ran r (fun e he => seen_sub he) fun cs main w w' hw => ?_) (enter_ok hP f args (.inl rfl)) (fun g hg => ?_) (bot_push bot)
    ·rw [hst]
     simp only [stepG.apply, if_true, hne, Bool.false_eq_true, if_false, hw, Tag.res, GStep.after, Array.append_empty]; rw [ht]; rfl
    ·simp only [List.mem_cons] at hg
     rcases hg with rfl | hg
     ·exact ok
     ·exact oks g hg
   | defer d =>
    have ok' : OkFrame P { fr with defers := d :: fr.defers } := ⟨ok.todo, fun y hy => by
     simp only [List.mem_cons] at hy
     rcases hy with rfl | hy
     ·exact hl
     ·exact ok.defers y hy, ok.round, ok.kind⟩
    refine .go (({ fr with defers := d :: fr.defers } : Frame).finish undef) new w1 (seen P fr.fn es1) n (goO_ran r (fun e he => seen_sub he) fun cs main w w' hw => ?_) (finish_ok ok' _) oks (bot_same bot (finish_kind _ _))
    rw [hst]
    simp only [stepG.apply, if_true, hne, Bool.false_eq_true, if_false, hw, Tag.res, GStep.after, Array.append_empty]; rfl
   | recover =>
    rcases recover_ok (v := undef) (cs' := []) (tail := []) oks ok.kind bot with ⟨_, h⟩ | ⟨v, new', h1, h2, h3, h4⟩
    ·refine .go (fr.finish .nilIface) new w1 (seen P fr.fn es1) n (goO_ran r (fun e he => seen_sub he) fun cs main w w' hw => ?_) (finish_ok ok _) oks (bot_same bot (finish_kind _ _))
     rw [hst]
     simp only [stepG.apply, if_true, hne, Bool.false_eq_true, if_false, hw, Tag.res, GStep.after, Array.append_empty, ok.round, h cs]; rfl
    ·refine .go (fr.finish v) new' w1 (seen P fr.fn es1) n (goO_ran r (fun e he => seen_sub he) fun cs main w w' hw => ?_) (finish_ok ok _) h2 (h3 _ (finish_kind _ _))
     rw [hst]
     simp only [stepG.apply, if_true, hne, Bool.false_eq_true, if_false, hw, Tag.res, GStep.after, Array.append_empty, ok.round, h1 cs]; rfl
   | comm cases bl sh =>
    refine .comm cases bl sh w1 (seen P fr.fn es1) n (commO_ran r (fun e he => seen_sub he) fun cs main w w' hw => ?_) hm hl ⟨ops, i, rest, k, ht⟩
    rw [hst]
    simp only [stepG.apply, if_true, hne, Bool.false_eq_true, if_false, hw, Tag.res, GStep.after, Array.append_empty]; rfl
   | spawn d =>
    refine .odd fun cs main => ?_
    rw [hst]
    simp only [stepG.apply, if_true, hne, Bool.false_eq_true, if_false, r.run, Tag.res]
    exact ite_holds (p := fun x => (∃ g child w es, GStep.after (seen P fr.fn es1) x = .spawn g child w es) ∨ ∃ g w es, GStep.after (seen P fr.fn es1) x = .go g w es ∧ Fatal' g ∧ (g.status = .running ∨ g.status = .blocked))
     (.inr ⟨_, _, _, rfl, ⟨_, _, rfl, rfl, rfl⟩, .inl rfl⟩) (.inl ⟨_, _, _, _, rfl⟩)
   | _ => exact hl.elim
variable {P : Program} {fr : Frame} {new : List Frame} {w0 : World}
theorem results_mild (fn : Func) (tmps : Array Value) : MT P (results fn tmps) := by
 unfold results
 refine mild_bindT (mild_mapMA _ _ fun r => ?_) fun vs => True.intro
 cases r with
 | tmp t => exact True.intro
 | cell a t => exact mild_bindT (mild_asAddr _) fun _ => mild_loadVar _ _
theorem exec_eq (hm : fr.mode = .run) (cs : List Frame) (main : Bool) (w : World) : stepG P main (G fr cs) w = stepG.exec P main true fr cs none w := stepG_run hm cs main w
theorem step_exec (hB : Bare P) (hP : OkProg P) (ok : OkFrame P fr) (oks : ∀ f ∈ new, OkFrame P f) (bot : (new.getLast?.getD fr).kind = .normal) (hp : PlainW w0) (hm : fr.mode = .run) : StepKind P fr new w0 := by
 have ret : (∀ (cs : List Frame) (main : Bool) (w : World), stepG P main (G fr (new ++ cs)) w = .go (G { fr with mode := .returning } (new ++ cs)) w) → StepKind P fr new w0 := fun h =>
  .go { fr with mode := .returning } new w0 #[] 0 (goO_ctl hp h) ⟨ok.todo, ok.defers, ok.round, ok.kind⟩ oks (bot_same bot rfl)
 have to : ∀ k : List Item, (∀ x ∈ k, OkItem P x) → (∀ (cs : List Frame) (main : Bool) (w : World), stepG P main (G fr (new ++ cs)) w = .go (G { fr with todo := k } (new ++ cs)) w) → StepKind P fr new w0 := fun k hk h =>
  .go { fr with todo := k } new w0 #[] 0 (goO_ctl hp h) (ok.to hk) oks (bot_same bot rfl)
 have hrd := ok.round
 cases ht : fr.todo with
 | nil => exact ret fun cs main w => by rw [exec_eq hm]; simp [stepG.exec, ht, hrd, G]
 | cons x k =>
  have hx : OkItem P x := ok.todo x (by rw [ht]; simp)
  have hk : ∀ y ∈ k, OkItem P y := fun y hy => ok.todo y (by rw [ht]; simp [hy])
  have hcons : ∀ {z : Item}, OkItem P z → ∀ y ∈ z :: k, OkItem P y := fun hz y hy => by
   simp only [List.mem_cons] at hy
   rcases hy with rfl | hy
   ·exact hz
   ·exact hk y hy
  have hcons2 : ∀ {z u : Item}, OkItem P z → OkItem P u → ∀ y ∈ z :: u :: k, OkItem P y := fun hz hu y hy => by
   simp only [List.mem_cons] at hy
   rcases hy with rfl | rfl | hy
   ·exact hz
   ·exact hu
   ·exact hk y hy
  cases x with
  | code c =>
   cases c with
   | skip => exact to k hk fun cs main w => by rw [exec_eq hm]; simp [stepG.exec, ht, G]
   | label l => exact to k hk fun cs main w => by rw [exec_eq hm]; simp [stepG.exec, ht, G]
   | ret => exact ret fun cs main w => by rw [exec_eq hm]; simp [stepG.exec, ht, hrd, G]
   | seq a b =>
    have h' : okCode P a = true ∧ okCode P b = true := by simpa [OkItem, okCode] using hx
    exact to (.code a :: .code b :: k) (hcons2 h'.1 h'.2) fun cs main w => by rw [exec_eq hm]; simp [stepG.exec, ht, G]
   | cond e a b =>
    have h' : okCode P a = true ∧ okCode P b = true := by simpa [OkItem, okCode] using hx
    cases he : fr.eval e with
    | bool t => exact to (.code (if t then a else b) :: k) (hcons (by show okCode P _ = true; cases t <;> simp [h'.1, h'.2])) fun cs main w => by rw [exec_eq hm]; simp [stepG.exec, ht, G, he]
    | _ => exact .ended fun cs main => by rw [exec_eq hm]; simp [stepG.exec, ht, he]
   | block id a => exact to (.code a :: .inBlock id :: k) (hcons2 (by simpa [OkItem, okCode] using hx) trivial) fun cs main w => by rw [exec_eq hm]; simp [stepG.exec, ht, G]
   | loop a => exact to (.code a :: .inLoop a :: k) (hcons2 (by simpa [OkItem, okCode] using hx) (by simpa [OkItem, okCode] using hx)) fun cs main w => by rw [exec_eq hm]; simp [stepG.exec, ht, G]
   | scope a => exact to (.code a :: .inScope a :: k) (hcons2 (by simpa [OkItem, okCode] using hx) (by simpa [OkItem, okCode] using hx)) fun cs main w => by rw [exec_eq hm]; simp [stepG.exec, ht, G]
   | exit id =>
    cases he : exitTo id k with
    | some k' => exact to k' (exitTo_ok hk he) fun cs main w => by rw [exec_eq hm]; simp [stepG.exec, ht, G, he]
    | none => exact .ended fun cs main => by rw [exec_eq hm]; simp [stepG.exec, ht, he, hrd]
   | goto l =>
    cases he : gotoIn l k with
    | some k' => exact to k' (gotoIn_ok hk he) fun cs main w => by rw [exec_eq hm]; simp [stepG.exec, ht, G, he]
    | none => exact .ended fun cs main => by rw [exec_eq hm]; simp [stepG.exec, ht, he, hrd]
   | refuse y => exact .ended fun cs main => by rw [exec_eq hm]; simp [stepG.exec, ht]
   | rangeFunc _ _ _ _ => simp [OkItem, okCode] at hx
   | region id ops draw =>
    have hops : (ops.all fun o => okOp P o.op) = true := by simpa [OkItem, okCode] using hx
    cases draw with
    | false => exact to (.inRegion ops (List.range ops.size) :: k) (hcons hops) fun cs main w => by rw [exec_eq hm]; simp [stepG.exec, ht, G]
    | true =>
     have hr : ∀ w : World, (choose (.order fr.fn id)).run P w = .ok (w.tape w.drawn (.order fr.fn id)) { w with drawn := w.drawn + 1 } := fun w => by simp [choose, Sem.run, Question.forced, Question.cut]
     refine .go { fr with todo := .inRegion ops (Region.schedule (P.follows .mixedOrders) ops (w0.tape w0.drawn (.order fr.fn id))) :: k } new { w0 with drawn := w0.drawn + 1 } #[] 1
      ⟨hp, rfl, rfl, Nat.le_refl _, by simp, fun cs main => ?_, fun cs main Z w hw ha => ⟨{ w with drawn := w.drawn + 1 }, ?_, hw.drew _ _, rfl, rfl, fun b hb => ⟨hb, rfl⟩⟩⟩ (ok.to (hcons hops)) oks (bot_same bot rfl)
     ·rw [exec_eq hm]; simp [stepG.exec, ht, G, hr]
     ·have h0 : w.tape w.drawn (.order fr.fn id) = w0.tape w0.drawn (.order fr.fn id) := by have := ha 0 (.order fr.fn id) (by omega); simpa using this
      rw [exec_eq hm]; simp [stepG.exec, ht, G, hr, h0]
  | inBlock id => exact to k hk fun cs main w => by rw [exec_eq hm]; simp [stepG.exec, ht, G]
  | inScope a => exact to k hk fun cs main w => by rw [exec_eq hm]; simp [stepG.exec, ht, G]
  | inLoop a => exact to (.code a :: .inLoop a :: k) (hcons2 hx hx) fun cs main w => by rw [exec_eq hm]; simp [stepG.exec, ht, G]
  | inRegion ops todo =>
   have hops : (ops.all fun o => okOp P o.op) = true := hx
   cases todo with
   | nil => exact to k hk fun cs main w => by rw [exec_eq hm]; simp [stepG.exec, ht, G]
   | cons i rest =>
    cases hw : ((ops[i]?).map (Region.wanted · (yielded ops fr.tmps))).getD false with
    | false =>
     exact .go (fr.finish undef) new w0 #[] 0 (goO_ctl hp fun cs main w => by rw [exec_eq hm]; simp [stepG.exec, ht, G, hw]) (finish_ok ok _) oks (bot_same bot (finish_kind _ _))
    | true =>
     cases ho : ops[i]? with
     | none => rw [ho] at hw; simp at hw
     | some o =>
      have hoo : okOp P o.op = true := by
       have := Array.all_eq_true_iff_forall_mem.1 hops o (Array.mem_of_getElem? ho)
       exact this
      refine step_apply hB hP ok oks bot hp hm ht (mn_execOp hB fr.eval o hoo) fun cs main w => ?_
      rw [exec_eq hm]
      have hof : fr.oper? = some o := by simp [Frame.oper?, ht, ho]
      simp only [stepG.exec, ht, hw, if_true, stepG.oper, hof, hrd]
  | _ => exact hx.elim
theorem doReturn_at (ok : OkFrame P fr) {c : Frame} {rest cs : List Frame} (main : Bool) (v : Value) (w : World) : ∃ c' : Frame, (c'.kind = c.kind) ∧ (OkFrame P c → OkFrame P c') ∧ ∀ (tail : List Frame) (main : Bool) (w : World), doReturn P main fr (c :: rest ++ tail) none v w = .go (G c' (rest ++ tail)) w := by
 rcases ok.kind with hk | hk
 ·exact ⟨c.finish v, finish_kind _ _, fun h => finish_ok h v, fun tail main w => by simp [doReturn, hk, G]⟩
 ·refine ⟨(match c.mode with
    | .panicking ({ recovered := true, .. } :: older) =>
     match older.dropWhile (!·.goexit) with
     | [] => { c with mode := .returning }
     | rest => { c with mode := .panicking rest }
    | _ => c), ?_, ?_, fun tail main w => by simp only [doReturn, List.cons_append, hk]; rfl⟩
  ·split
   ·split <;> rfl
   ·rfl
  ·intro h
   split
   ·split <;> exact ⟨h.todo, h.defers, h.round, h.kind⟩
   ·exact h
theorem step_unwind (hB : Bare P) (hP : OkProg P) (ok : OkFrame P fr) (oks : ∀ f ∈ new, OkFrame P f) (bot : (new.getLast?.getD fr).kind = .normal) (hp : PlainW w0) (hm : fr.mode ≠ .run) : StepKind P fr new w0 := by
 have hu : ∀ (cs : List Frame) (main : Bool) (w : World), stepG P main (G fr cs) w = unwind P main fr cs none w := fun cs main w => stepG_unw hm cs main w
 cases hd : fr.defers with
 | nil =>
  cases new with
  | nil => exact .leave rfl hm hd
  | cons c rest =>
   have okc := oks c (by simp)
   have okr : ∀ f ∈ rest, OkFrame P f := fun f hf => oks f (by simp [hf])
   cases hmode : fr.mode with
   | run => exact absurd hmode hm
   | panicking chain =>
    have hcat : fr.catches P = false := by
     unfold Frame.catches
     split
     ·rename_i h2; exact absurd (ok.todo _ (by rw [h2]; exact List.mem_cons_self)) id
     ·rfl
    exact .go (c.raise chain) rest w0 #[] 0 (goO_ctl hp fun cs main w => by rw [hu]; simp [unwind, hd, hmode, hcat, G]) (raise_ok okc _) okr (bot_pop bot (raise_kind _ _))
   | returning =>
    cases hf : P.funcs[fr.fn]? with
    | none =>
     obtain ⟨c', h1, h2, h3⟩ := doReturn_at (P := P) (c := c) (rest := rest) (cs := []) ok true (fr.tmps.getD 0 undef) w0
     exact .go c' rest w0 #[] 0 (goO_ctl hp fun cs main w => by rw [hu]; simp only [unwind, hd, hmode, hf]; exact h3 cs main w) (h2 okc) okr (bot_pop bot h1)
    | some fn =>
     rcases run_over (results fn fr.tmps) (results_mild fn fr.tmps) w0 #[] hp with hr | ⟨t, w1, es1, n, r⟩
     ·refine .ended fun cs main => ?_
      rw [hu]
      simp only [unwind, hd, hmode, hf]
      rcases hrun : (results fn fr.tmps).runT P w0 #[] with ⟨x, es⟩
      rw [hrun] at hr
      cases x with
      | ok a w => exact hr.elim
      | halt h w =>
       cases h with
       | stuck y => exact ⟨_, _, _, rfl⟩
       | unsupported u => exact ⟨_, _, _, rfl⟩
       | _ => exact hr.elim
     ·cases t with
      | pan v =>
       refine .ended fun cs main => ?_
       rw [hu]
       simp only [unwind, hd, hmode, hf, r.run, Tag.res]
       exact ⟨_, _, _, rfl⟩
      | ok v =>
       obtain ⟨c', h1, h2, h3⟩ := doReturn_at (P := P) (c := c) (rest := rest) (cs := []) ok true v w0
       refine .go c' rest w1 (seen P fr.fn es1) n (goO_ran r (fun e he => seen_sub he) fun cs main w w' hw => ?_) (h2 okc) okr (bot_pop bot h1)
       rw [hu]
       simp only [unwind, hd, hmode, hf, hw, Tag.res]
       rw [h3 cs main w']
       simp [GStep.after]
 | cons d ds =>
  have hdt : TameT d.target := ok.defers d (by rw [hd]; simp)
  have okd : OkFrame P { fr with defers := ds } := ⟨ok.todo, fun y hy => ok.defers y (by rw [hd]; simp [hy]), ok.round, ok.kind⟩
  have hcall : ∀ (cs : List Frame) (main : Bool) (w : World), stepG P main (G fr cs) w = callDeferred P { fr with defers := ds } cs none d w := by
   intro cs main w
   rw [hu]
   obtain ⟨tg, ag⟩ := d
   cases tg with
   | collected r => exact absurd hdt id
   | coroexit c => exact absurd hdt id
   | _ => simp only [unwind, hd]
  have bot' : (new.getLast?.getD { fr with defers := ds }).kind = .normal := bot_same bot rfl
  have hmd : ({ fr with defers := ds } : Frame).mode = fr.mode := rfl
  generalize ({ fr with defers := ds } : Frame) = fd at okd hcall bot' hmd
  rw [← hmd] at hm
  by_cases hnil : d.target = .nil ∧ ∃ c, fd.mode = .panicking c
  ·obtain ⟨hn1, c, hn2⟩ := hnil
   refine .ended fun cs main => ?_
   rw [hcall]
   simp [callDeferred, hn1, hn2]
  ·rcases run_over (invoke d.target d.args) (mn_invoke hB hdt _) w0 #[] hp with hr | ⟨t, w1, es1, n, r⟩
   ·refine .ended fun cs main => ?_
    rw [hcall]
    unfold callDeferred
    rw [if_neg]
    rotate_left
    ·intro hx
     rw [Bool.and_eq_true] at hx
     obtain ⟨h1, h2⟩ := hx
     split at h1
     ·rename_i ht1
      split at h2
      ·rename_i c hc; exact hnil ⟨ht1, c, hc⟩
      ·cases h2
     ·cases h1
    rcases hrun : (invoke d.target d.args).runT P w0 #[] with ⟨x, es⟩
    rw [hrun] at hr
    cases x with
    | ok a w => exact hr.elim
    | halt h w =>
     cases h with
     | stuck y => exact ⟨_, _, _, rfl⟩
     | unsupported u => exact ⟨_, _, _, rfl⟩
     | _ => exact hr.elim
   ·have hgo : ∀ (x : Next) (fr' : Frame) (new' : List Frame), t = .ok x → OkFrame P fr' → (∀ f ∈ new', OkFrame P f) → (new'.getLast?.getD fr').kind = .normal →
      (∀ (cs : List Frame) (w w' : World), (invoke d.target d.args).runT P w #[] = (.ok x w', es1) → callDeferred P fd (new ++ cs) none d w = .go (G fr' (new' ++ cs)) w' (seen P fd.fn es1)) → StepKind P fr new w0 := by
     intro x fr' new' ht h1 h2 h3 h4
     subst ht
     exact .go fr' new' w1 (seen P fd.fn es1) n (goO_ran r (fun e he => seen_sub he) fun cs main w w' hw => by rw [hcall]; exact h4 cs w w' hw) h1 h2 h3
    cases t with
    | pan v =>
     refine .go (fd.raise [{ v, recovered := false }]) new w1 (seen P fd.fn es1) n (goO_ran r (fun e he => seen_sub he) fun cs main w w' hw => ?_) (raise_ok okd _) oks (bot_same bot' (raise_kind _ _))
     rw [hcall]
     unfold callDeferred
     rw [if_neg]
     rotate_left
     ·intro hx
      rw [Bool.and_eq_true] at hx
      obtain ⟨h1, h2⟩ := hx
      split at h1
      ·rename_i ht1
       split at h2
       ·rename_i c hc; exact hnil ⟨ht1, c, hc⟩
       ·cases h2
      ·cases h1
     simp only [hw, Tag.res, GStep.after, Array.append_empty]; rfl
    | ok x =>
     have hl : Tame x := r.leaf
     cases x with
     | enter f args =>
      refine hgo _ (Frame.enter P f args .deferred) (fd :: new) rfl (enter_ok hP f args (.inr rfl)) (fun g hg => ?_) (bot_push bot') fun cs w w' hw => ?_
      ·simp only [List.mem_cons] at hg
       rcases hg with rfl | hg
       ·exact okd
       ·exact oks g hg
      ·unfold callDeferred
       rw [if_neg]
       rotate_left
       ·intro hx
        rw [Bool.and_eq_true] at hx
        obtain ⟨h1, h2⟩ := hx
        split at h1
        ·rename_i ht1
         split at h2
         ·rename_i c hc; exact hnil ⟨ht1, c, hc⟩
         ·cases h2
        ·cases h1
       simp only [hw, GStep.after, Array.append_empty]; rfl
     | recover =>
      rcases recover_ok (v := undef) (cs' := []) (tail := []) oks okd.kind bot' with ⟨_, h⟩ | ⟨v, new', h1, h2, h3, h4⟩
      ·refine hgo _ fd new rfl okd oks bot' fun cs w w' hw => ?_
       unfold callDeferred
       rw [if_neg]
       rotate_left
       ·intro hx
        rw [Bool.and_eq_true] at hx
        obtain ⟨h1, h2⟩ := hx
        split at h1
        ·rename_i ht1
         split at h2
         ·rename_i c hc; exact hnil ⟨ht1, c, hc⟩
         ·cases h2
        ·cases h1
       simp only [hw, GStep.after, h cs]
       cases fd.mode <;> simp [G]
      ·cases hmode : fd.mode with
       | returning =>
        refine hgo _ fd new' rfl okd h2 (h3 _ rfl) fun cs w w' hw => ?_
        unfold callDeferred
        rw [if_neg]
        rotate_left
        ·intro hx
         rw [Bool.and_eq_true] at hx
         obtain ⟨h1, h2⟩ := hx
         split at h1
         ·rename_i ht1
          split at h2
          ·rename_i c hc; exact hnil ⟨ht1, c, hc⟩
          ·cases h2
         ·cases h1
        simp only [hw, GStep.after, Array.append_empty, h1 cs, hmode]
        simp [G]
       | run => exact absurd hmode hm
       | panicking c =>
        refine hgo _ fd new rfl okd oks bot' fun cs w w' hw => ?_
        unfold callDeferred
        rw [if_neg]
        rotate_left
        ·intro hx
         rw [Bool.and_eq_true] at hx
         obtain ⟨h1, h2⟩ := hx
         split at h1
         ·rename_i ht1
          split at h2
          ·rename_i c hc; exact hnil ⟨ht1, c, hc⟩
          ·cases h2
         ·cases h1
        simp only [hw, GStep.after, Array.append_empty, h1 cs, hmode]
        simp [G]
     | value v =>
      refine hgo _ fd new rfl okd oks bot' fun cs w w' hw => ?_
      unfold callDeferred
      rw [if_neg]
      rotate_left
      ·intro hx
       rw [Bool.and_eq_true] at hx
       obtain ⟨h1, h2⟩ := hx
       split at h1
       ·rename_i ht1
        split at h2
        ·rename_i c hc; exact hnil ⟨ht1, c, hc⟩
        ·cases h2
       ·cases h1
      simp only [hw, GStep.after, Array.append_empty]; rfl
     | skip =>
      refine hgo _ fd new rfl okd oks bot' fun cs w w' hw => ?_
      unfold callDeferred
      rw [if_neg]
      rotate_left
      ·intro hx
       rw [Bool.and_eq_true] at hx
       obtain ⟨h1, h2⟩ := hx
       split at h1
       ·rename_i ht1
        split at h2
        ·rename_i c hc; exact hnil ⟨ht1, c, hc⟩
        ·cases h2
       ·cases h1
      simp only [hw, GStep.after, Array.append_empty]; rfl
     | defer d' =>
      refine hgo _ fd new rfl okd oks bot' fun cs w w' hw => ?_
      unfold callDeferred
      rw [if_neg]
      rotate_left
      ·intro hx
       rw [Bool.and_eq_true] at hx
       obtain ⟨h1, h2⟩ := hx
       split at h1
       ·rename_i ht1
        split at h2
        ·rename_i c hc; exact hnil ⟨ht1, c, hc⟩
        ·cases h2
       ·cases h1
      simp only [hw, GStep.after, Array.append_empty]; rfl
     | comm a b c =>
      refine hgo _ fd new rfl okd oks bot' fun cs w w' hw => ?_
      unfold callDeferred
      rw [if_neg]
      rotate_left
      ·intro hx
       rw [Bool.and_eq_true] at hx
       obtain ⟨h1, h2⟩ := hx
       split at h1
       ·rename_i ht1
        split at h2
        ·rename_i c hc; exact hnil ⟨ht1, c, hc⟩
        ·cases h2
       ·cases h1
      simp only [hw, GStep.after, Array.append_empty]; rfl
     | spawn d' =>
      refine hgo _ fd new rfl okd oks bot' fun cs w w' hw => ?_
      unfold callDeferred
      rw [if_neg]
      rotate_left
      ·intro hx
       rw [Bool.and_eq_true] at hx
       obtain ⟨h1, h2⟩ := hx
       split at h1
       ·rename_i ht1
        split at h2
        ·rename_i c hc; exact hnil ⟨ht1, c, hc⟩
        ·cases h2
       ·cases h1
      simp only [hw, GStep.after, Array.append_empty]; rfl
     | _ => exact hl.elim
theorem step_kind (hB : Bare P) (hP : OkProg P) (ok : OkFrame P fr) (oks : ∀ f ∈ new, OkFrame P f) (bot : (new.getLast?.getD fr).kind = .normal) (hp : PlainW w0) : StepKind P fr new w0 := by
 by_cases hm : fr.mode = .run
 ·exact step_exec hB hP ok oks bot hp hm
 ·exact step_unwind hB hP ok oks bot hp hm
variable {P : Program}
def AlMove (n : Nat) : Move → Prop
 | .goroutine m _ => n ≤ m.gs.size
 | .machine s _ => AtLeast n s
theorem al_serve (m : Machine) (k : Nat) : AtLeast m.gs.size (serve P m k) := by
 unfold serve
 split
 ·exact True.intro
 ·show m.gs.size ≤ _; simp
 ·dsimp only
  split
  ·exact True.intro
  ·show m.gs.size ≤ _; simp
theorem al_askOn (m : Machine) : AlMove m.gs.size (askOn P m) := by
 unfold askOn
 dsimp only
 repeat' split
 all_goals first | exact True.intro | exact al_serve _ _ | exact Nat.le_refl m.gs.size
theorem al_ask (m : Machine) : AlMove m.gs.size (ask P m) := by
 unfold ask
 split
 ·split
  ·exact True.intro
  ·split
   ·rename_i w1 _ m2 h
    have := al_look (P := P) m.gs m.rest ‹World›
    rw [h] at this
    have h2 := al_askOn (P := P) m2
    unfold AlMove at h2 ⊢
    split
    ·rename_i hx; rw [hx] at h2; exact Nat.le_trans this h2
    ·rename_i hx; rw [hx] at h2
     revert h2
     intro h2
     cases hs : ‹Stepped› with
     | next mm => rw [hs] at h2; exact Nat.le_trans this h2
     | ended _ _ => exact True.intro
   ·rename_i h
    have := al_look (P := P) m.gs m.rest ‹World›
    show AtLeast _ _
    exact this
  ·exact al_askOn _
 ·exact al_askOn _
theorem al_move (m : Machine) : AlMove m.gs.size (move P m) := by
 unfold move
 split
 ·split
  ·exact Nat.le_refl _
  ·exact True.intro
 ·split
  ·split
   ·exact Nat.le_refl _
   ·exact al_ask _
  ·exact al_ask _
theorem al_step (m : Machine) : AtLeast m.gs.size (step P m) := by
 have h := al_move (P := P) m
 unfold step stepT
 split
 ·rename_i m2 i hm
  rw [hm] at h
  have h2 := al_runT (P := P) m2 i
  cases hs : (runT P m2 i).1 with
  | next mm => rw [hs] at h2; exact Nat.le_trans h h2
  | ended _ _ => exact True.intro
 ·rename_i s o hm
  rw [hm] at h
  exact h
theorem al_runN : ∀ (n : Nat) (m : Machine), AtLeast m.gs.size (runN P n m)
 | 0, m => Nat.le_refl _
 | n + 1, m => by
  have h := al_step (P := P) m
  unfold runN
  split
  ·rename_i m2 hs
   rw [hs] at h
   have h2 := al_runN n m2
   cases hr : runN P n m2 with
   | next mm => rw [hr] at h2; exact Nat.le_trans h h2
   | ended _ _ => exact True.intro
  ·rename_i e hs
   cases h1 : step P m with
   | next mm => exact absurd h1 (by intro h1; exact (hs mm h1))
   | ended _ _ => exact True.intro
def sen (P : Program) : Frame := { fn := P.funcs.size, tmps := #[], todo := [.call { target := .nil, args := #[] } false "fmt's door" #[]], defers := [], mode := .run, kind := .normal }
def DeadM (P : Program) (m : Machine) : Prop := ∀ (n : Nat) (fr : Frame) (w : World), runN P n m ≠ .next (lone fr [sen P] w)
def BadM (P : Program) (m : Machine) : Prop := ∀ (n : Nat) (fr : Frame) (w : World), runN P (n + 1) m ≠ .next (lone fr [sen P] w)
theorem bad_of_ended {m : Machine} {o : Outcome} {w : World} (h : step P m = .ended o w) : BadM P m := by
 intro n fr w' hr
 simp [runN, h] at hr
theorem bad_of_next {m m' : Machine} (h : step P m = .next m') (hd : DeadM P m') : BadM P m := by
 intro n fr w' hr
 simp only [runN, h] at hr
 exact hd n fr w' hr
theorem dead_of_bad {m : Machine} (h : BadM P m) (h0 : ∀ fr w, m ≠ lone fr [sen P] w) : DeadM P m := by
 intro n fr w hr
 cases n with
 | zero => exact h0 fr w (by simpa [runN] using hr)
 | succ n => exact h n fr w hr
theorem dead_two {m : Machine} (h : 2 ≤ m.gs.size) : DeadM P m := by
 intro n fr w hr
 have := al_runN (P := P) n m
 rw [hr] at this
 have : m.gs.size ≤ 1 := this
 omega
theorem move_solo {g : Goroutine} {w : World} (hg : g.status = .running) : move P (crowd #[g] w none) = .goroutine (crowd #[g] w none) 0 := by
 simp [move, ask, askOn, crowd, runnable_eq, due, ahead, Goroutine.canRun, List.range_succ, choose, pure, Sem.run, Question.forced, hg]
theorem step_solo {g : Goroutine} {w : World} (hg : g.status = .running) : step P (crowd #[g] w none) = (runT P (crowd #[g] w none) 0).1 := by
 unfold step stepT
 rw [move_solo hg]
theorem step_solo_go {g g' : Goroutine} {w w' : World} {es : Array Event} (hg : g.status = .running) (h : stepG P true g w = .go g' w' es) : step P (crowd #[g] w none) = .next (crowd #[g'] w' none) := by
 rw [step_solo hg, runT_crowd_go (i := 0) (g := g) rfl h]
 simp
theorem step_solo_ended {g : Goroutine} {w w' : World} {o : Outcome} {es : Array Event} (hg : g.status = .running) (h : stepG P true g w = .ended o w' es) : step P (crowd #[g] w none) = .ended o w' := by
 rw [step_solo hg, runT_many_ended (i := 0) (g := g) rfl h]
theorem step_blocked {g : Goroutine} {w : World} (hg : g.status = .blocked) : ∃ o w', step P (crowd #[g] w none) = .ended o w' := by
 have hs : ∀ mono, g.canRun mono = false := by intro mono; simp [Goroutine.canRun, hg]
 unfold step stepT
 simp [move, ask, askOn, crowd, runnable_eq, due, ahead, hs, List.range_succ, choose, pure, Sem.run, hg]
 generalize endWith w 2 _ _ = x
 cases x <;> simp
theorem lone_eq (fr : Frame) (cs : List Frame) (w : World) : lone fr cs w = crowd #[G fr cs] w none := rfl
theorem bad_blocked {g : Goroutine} {w : World} (hg : g.status = .blocked) : DeadM P (crowd #[g] w none) := by
 obtain ⟨o, w', h⟩ := step_blocked (P := P) (w := w) hg
 refine dead_of_bad (bad_of_ended h) fun fr w1 e => ?_
 have : #[g] = #[G fr [sen P]] := congrArg Machine.gs e
 simp only [Array.mk.injEq, List.cons.injEq, and_true] at this
 rw [this] at hg
 cases hg
theorem step_fatal {g : Goroutine} {w : World} (hF : Fatal' g) (hs : g.status = .running ∨ g.status = .blocked) :
  (∃ o w', step P (crowd #[g] w none) = .ended o w') ∨ ∃ g' w', step P (crowd #[g] w none) = .next (crowd #[g'] w' none) ∧ Fatal' g' ∧ (g'.status = .running ∨ g'.status = .blocked) := by
 rcases hs with hs | hs
 ·obtain ⟨d, f, h1, h2, h3⟩ := hF
  obtain ⟨fr, cs, st, dy, off⟩ := g
  obtain ⟨todo, texts, calling, pending, re, hand, fatal⟩ := d
  simp only at h1 h2 h3 hs
  subst h1 h2 h3 hs
  have hst : stepG P true { frame := fr, callers := cs, status := .running, dying := some { todo := todo, texts := texts, calling := false, pending := pending, runtimeError := re, fatal := some f, hand := hand }, offers := off } w =
    writeOn P fr { todo := todo, texts := texts, calling := false, pending := pending, runtimeError := re, fatal := some f, hand := hand } f w := by
   simp [stepG, die]
  generalize hw : writeOn P fr { todo := todo, texts := texts, calling := false, pending := pending, runtimeError := re, fatal := some f, hand := hand } f w = x at hst
  have hx : (∃ o w' es, x = .ended o w' es) ∨ ∃ g' w' es, x = .go g' w' es ∧ Fatal' g' ∧ (g'.status = .running ∨ g'.status = .blocked) := by
   rw [← hw]
   unfold writeOn
   dsimp only
   split
   ·exact .inl ⟨_, _, _, rfl⟩
   ·split
    ·exact .inr ⟨_, _, _, rfl, ⟨_, _, rfl, rfl, rfl⟩, .inl rfl⟩
    ·exact .inr ⟨_, _, _, rfl, ⟨_, _, rfl, rfl, rfl⟩, .inr rfl⟩
    ·exact .inl ⟨_, _, _, rfl⟩
    ·exact .inl ⟨_, _, _, rfl⟩
  rcases hx with ⟨o, w', es, rfl⟩ | ⟨g', w', es, rfl, h4, h5⟩
  ·exact .inl ⟨o, w', step_solo_ended rfl hst⟩
  ·exact .inr ⟨g', w', step_solo_go rfl hst, h4, h5⟩
 ·exact .inl (step_blocked hs)
theorem dead_fatal : ∀ (n : Nat) (g : Goroutine) (w : World), Fatal' g → (g.status = .running ∨ g.status = .blocked) → ∀ (fr : Frame) (w' : World), runN P n (crowd #[g] w none) ≠ .next (lone fr [sen P] w')
 | 0, g, w, hF, _, fr, w', h => by
  simp only [runN, Stepped.next.injEq] at h
  have : #[g] = #[G fr [sen P]] := congrArg Machine.gs h
  simp only [Array.mk.injEq, List.cons.injEq, and_true] at this
  rw [this] at hF
  obtain ⟨d, f, h1, _⟩ := hF
  cases h1
 | n + 1, g, w, hF, hs, fr, w', h => by
  rcases step_fatal (P := P) (w := w) hF hs with ⟨o, w1, h1⟩ | ⟨g', w1, h1, h2, h3⟩
  ·simp [runN, h1] at h
  ·simp only [runN, h1] at h
   exact dead_fatal n g' w1 h2 h3 fr w' h
theorem sen_catches : (sen P).catches P = true := by
 have : ("fmt's door".startsWith "fmt's door") = true := by decide +kernel
 simp [Frame.catches, sen, this]
theorem next_none : Extern.next "fmt's door" = none := by
 have h : (Extern.next "fmt's door" matches none) = true := by decide +kernel
 split at h
 ·assumption
 ·cases h
theorem dead_nil {fr : Frame} {w : World} {o : Outcome} {w' : World} (h : step P (lone fr [] w) = .ended o w') : DeadM P (lone fr [] w) :=
 dead_of_bad (bad_of_ended h) fun fr1 w1 e => by
  have : #[G fr []] = #[G fr1 [sen P]] := congrArg Machine.gs e
  simp only [Array.mk.injEq, List.cons.injEq, and_true] at this
  have := congrArg Goroutine.callers this
  cases this
theorem dead_finish (v : Value) (w : World) : DeadM P (lone ((sen P).finish v) [] w) := by
 refine dead_nil (o := .stuck ("no extern row " ++ "fmt's door") (((sen P).finish v).pos P)) (w' := w) ?_
 refine step_solo_ended (es := #[]) rfl ?_
 simp [stepG, stepG.exec, sen, Frame.finish, next_none]
theorem dead_raise (c : List PanicEntry) (w : World) : DeadM P (lone ((sen P).raise c) [] w) := by
 have hc : ((sen P).raise c).catches P = true := sen_catches
 refine dead_nil (o := .unsupported (.noEntry "a panic or Goexit out of a method that fmt calls behind a cut's door") (((sen P).raise c).pos P)) (w' := w) ?_
 refine step_solo_ended (es := #[]) rfl ?_
 have hc' : ({ sen P with mode := .panicking c } : Frame).catches P = true := hc
 simp only [sen] at hc'
 simp [stepG, unwind, sen, Frame.raise, hc']
theorem bad_leave {fr : Frame} {w : World} (hm : fr.mode ≠ .run) (hd : fr.defers = []) (hk : fr.kind = .normal) : BadM P (lone fr [sen P] w) := by
 have hst : stepG P true (G fr [sen P]) w = unwind P true fr [sen P] none w := stepG_unw hm [sen P] true w
 have key : (∃ o w' es, unwind P true fr [sen P] none w = .ended o w' es) ∨ (∃ v w' es, unwind P true fr [sen P] none w = .go (G ((sen P).finish v) []) w' es) ∨
   ∃ c w' es, unwind P true fr [sen P] none w = .go (G ((sen P).raise c) []) w' es := by
  unfold unwind
  rw [hd]
  dsimp only
  split
  ·exact .inl ⟨_, _, _, rfl⟩
  ·split
   ·exact .inl ⟨_, _, _, rfl⟩
   ·exact .inr (.inr ⟨_, _, _, rfl⟩)
  ·split
   ·simp only [doReturn, hk]
    exact .inr (.inl ⟨_, _, _, rfl⟩)
   ·split
    ·simp only [doReturn, hk, GStep.after]
     exact .inr (.inl ⟨_, _, _, rfl⟩)
    ·exact .inl ⟨_, _, _, rfl⟩
    ·exact .inl ⟨_, _, _, rfl⟩
 rcases key with ⟨o, w', es, h⟩ | ⟨v, w', es, h⟩ | ⟨c, w', es, h⟩
 ·exact bad_of_ended (step_solo_ended rfl (hst.trans h))
 ·exact bad_of_next (step_solo_go rfl (hst.trans h)) (dead_finish v w')
 ·exact bad_of_next (step_solo_go rfl (hst.trans h)) (dead_raise c w')
theorem bad_odd {fr : Frame} {cs : List Frame} {w : World} (h : (∃ g child w' es, stepG P true (G fr cs) w = .spawn g child w' es) ∨ ∃ g w' es, stepG P true (G fr cs) w = .go g w' es ∧ Fatal' g ∧ (g.status = .running ∨ g.status = .blocked)) :
  BadM P (lone fr cs w) := by
 rcases h with ⟨g, child, w', es, h⟩ | ⟨g, w', es, h, hF, hs⟩
 ·refine bad_of_next (m' := crowd ((#[G fr cs].setIfInBounds 0 g).push child) w' none) ?_ (dead_two (by simp [crowd]))
  rw [lone_eq, step_solo rfl, runT_crowd_spawn (i := 0) (g := G fr cs) rfl h]
 ·exact bad_of_next (step_solo_go rfl h) fun n fr w => dead_fatal n _ _ hF hs fr w
variable {P : Program}
def Alone (gs : Array Goroutine) : Prop := ∀ (i : Nat) (g : Goroutine), 0 < i → gs[i]? = some g → g.status = .running ∨ g.status = .finished
def Keeps (w w0 w' w1 : World) : Prop := ∀ b : Nat, w1.heap[b]? = some (Obj.coro none) → w0.heap[b]? = some (Obj.coro none) ∧ w'.heap[b]? = w.heap[b]?
def StillOp (op : MemOp) : Prop := op.g = 0 ∧ op.act ≠ .mark .disable ∧ op.act ≠ .mark .enable
structure LStep (P : Program) (fr : Frame) (new : List Frame) (w0 : World) (fr' : Frame) (new' : List Frame) (w1 : World) (n : Nat) : Prop where
 plain : PlainW w1
 tape : w1.tape = w0.tape
 drawn : w1.drawn = w0.drawn + n
 grows : w0.heap.size ≤ w1.heap.size
 over : ∀ (cs : List Frame) (gs : Array Goroutine) (sl : Option (Nat × Nat)) (Z : Nat → Prop) (w : World), gs[0]? = some (G fr (new ++ cs)) → Alone gs → Over Z w w0 → Agree w.tape w.drawn w0.tape w0.drawn n →
  ∃ (w' : World) (ops : Array MemOp), runT P (crowd gs w sl) 0 = (.next (crowd (gs.setIfInBounds 0 (G fr' (new' ++ cs))) w' sl), ops) ∧ Over Z w' w1 ∧ w'.tape = w.tape ∧ w'.drawn = w.drawn + n ∧ Keeps w w0 w' w1 ∧ ∀ op ∈ ops, StillOp op
theorem map_woken {gs : Array Goroutine} {g g' : Goroutine} {w : World} (ha : Alone gs) (x : Goroutine) : (gs.map (woken P g g' w)).setIfInBounds 0 x = gs.setIfInBounds 0 x := by
 apply Array.ext_getElem?
 intro j
 rcases Nat.eq_zero_or_pos j with rfl | hj
 ·simp [Array.getElem?_setIfInBounds]
 ·rw [Array.getElem?_setIfInBounds_ne (by omega), Array.getElem?_setIfInBounds_ne (by omega), Array.getElem?_map]
  cases h : gs[j]? with
  | none => rfl
  | some y =>
   simp only [Option.map_some, Option.some.injEq]
   unfold woken
   split
   ·exact again_running _ (ha j y hj h)
   ·rfl
theorem still_ofEvents {fn : FuncId} {pos : String} {es : Array Event} (h : ∀ e ∈ es, MildEv e) : ∀ op ∈ MemOp.ofEvents 0 fn pos es, StillOp op := by
 intro op hop
 obtain ⟨e, he, rfl⟩ := Go.Conc.mem_ofEvents hop
 have hm := h e he
 obtain ⟨loc, wr, sy⟩ := e
 refine ⟨rfl, ?_, ?_⟩
 ·intro hx
  cases loc with
  | mark m => cases m <;> simp_all [MemAct.ofEvent, MildEv]
  | obj c => cases wr <;> cases sy <;> simp_all [MemAct.ofEvent]
  | _ => simp_all [MemAct.ofEvent]
 ·intro hx
  cases loc with
  | mark m => cases m <;> simp_all [MemAct.ofEvent, MildEv]
  | obj c => cases wr <;> cases sy <;> simp_all [MemAct.ofEvent]
  | _ => simp_all [MemAct.ofEvent]
theorem lstep_go {fr fr' : Frame} {new new' : List Frame} {w0 w1 : World} {es : Array Event} {n : Nat} (h : GoO P fr new w0 fr' new' w1 es n) : LStep P fr new w0 fr' new' w1 n :=
 ⟨h.plain, h.tape, h.drawn, h.grows, fun cs gs sl Z w h0 ha hw hag => by
  obtain ⟨w', h1, h2, h3, h4, h5⟩ := h.over cs true Z w hw hag
  have hr := runT_crowd_go (P := P) (sl := sl) (i := 0) h0 h1
  rw [map_woken ha] at hr
  exact ⟨w', _, hr, h2, h3, h4, h5, still_ofEvents h.evs⟩⟩
theorem partners_alone {gs : Array Goroutine} (ha : Alone gs) (c : Nat) (send : Bool) : partners (gs.setIfInBounds 0 ph) c send = [] := by
 refine partners_nil fun j g hg => ?_
 rcases getElem?_stand gs 0 j g hg with ⟨_, rfl⟩ | ⟨hj, hg'⟩
 ·rfl
 ·exact offersAt_of_not_blocked (by rcases ha j g (by omega) hg' with e | e <;> rw [e] <;> simp) _ _
theorem alone_one (g : Goroutine) : Alone #[g] := fun i x hi hx => by
 have : i < 1 := by simpa using (Array.getElem?_eq_some_iff.1 hx).1
 omega
theorem Over.comm {Z : Nat → Prop} {w w0 : World} {r cap : Nat} {buf : Array Value} {cl : Bool} {s rv : Nat} {tm : Bool} (h : Over Z w w0) : Over Z (w.setChan r cap buf cl s rv tm) (w0.setChan r cap buf cl s rv tm) := h.set (by simp)
inductive Meets (P : Program) (c : CommCase) (sh : CommShape) (fr : Frame) (w1 : World) : Prop
 | ill (h : illMade w1 c = true)
 | waits (h : ∀ gs : Array Goroutine, Alone gs → NoWays w1 (gs.setIfInBounds 0 ph) c)
 | room (r : Nat) (v z : Value) (cap s rv : Nat) (buf : Array Value) (tm : Bool) (e : c = scase r v z) (hc : w1.heap[r]? = some (.chan cap buf false s rv tm)) (h : buf.size < cap)
 | shut (r : Nat) (v z : Value) (cap s rv : Nat) (buf : Array Value) (tm : Bool) (e : c = scase r v z) (hc : w1.heap[r]? = some (.chan cap buf true s rv tm))
 | some (r : Nat) (z : Value) (cap s rv : Nat) (buf : Array Value) (cl tm : Bool) (e : c = rcase r z) (hc : w1.heap[r]? = some (.chan cap buf cl s rv tm)) (h : 0 < buf.size)
 | closed (r : Nat) (z : Value) (cap s rv : Nat) (tm : Bool) (e : c = rcase r z) (hc : w1.heap[r]? = some (.chan cap #[] true s rv tm))
theorem meets (c : CommCase) (sh : CommShape) (fr : Frame) (w1 : World) : Meets P c sh fr w1 := by
 obtain ⟨ch, sd, z⟩ := c
 by_cases hill : illMade w1 ⟨ch, sd, z⟩ = true
 ·exact .ill hill
 have hill : illMade w1 ⟨ch, sd, z⟩ = false := by simpa using hill
 cases ch with
 | chan o =>
  cases o with
  | none => exact .waits fun gs _ => ways_nil sd
  | some r =>
   have hch : ∃ cap buf cl s rv tm, w1.heap[r]? = some (.chan cap buf cl s rv tm) := by
    unfold illMade at hill
    dsimp only at hill
    cases ho : w1.heap[r]? with
    | none => rw [ho] at hill; simp at hill
    | some o => cases o <;> first | exact ⟨_, _, _, _, _, _, rfl⟩ | (rw [ho] at hill; simp at hill)
   obtain ⟨cap, buf, cl, s, rv, tm, hc⟩ := hch
   cases sd with
   | some v =>
    cases cl with
    | true => exact .shut r v z cap s rv buf tm rfl hc
    | false =>
     rcases Nat.lt_or_ge buf.size cap with h | h
     ·exact .room r v z cap s rv buf tm rfl hc h
     ·exact .waits fun gs ha => ways_send_none hc h (partners_alone ha r false)
   | none =>
    rcases Nat.eq_zero_or_pos buf.size with h | h
    ·obtain rfl : buf = #[] := Array.eq_empty_of_size_eq_zero h
     cases cl with
     | true => exact .closed r z cap s rv tm rfl hc
     | false => exact .waits fun gs ha => ways_recv_none hc (partners_alone ha r true)
    ·exact .some r z cap s rv buf cl tm rfl hc h
 | _ => exact absurd hill (by simp [illMade])
theorem crowd_send_shut {gs : Array Goroutine} {w w₁ : World} {sl : Option (Nat × Nat)} {i : Nat} {g g₂ : Goroutine} {es : Array Event} {shape : CommShape} {blocking : Bool} {c cap s r : Nat} {buf : Array Value} {tm : Bool} {v z : Value}
  (hi : gs[i]? = some g) (h : stepG P (i == 0) g w = .comm g₂ #[scase c v z] blocking shape w₁ es) (hc : w₁.heap[c]? = some (.chan cap buf true s r tm)) :
  runT P (crowd gs w sl) i = (.next (crowd (gs.setIfInBounds i { g₂ with frame := g₂.frame.raise [{ v := .iface P.rt.plainError (strVal "send on closed channel"), recovered := false }] }) w₁ sl),
   MemOp.ofEvents i g.frame.fn g.frame.place es ++ #[]) := by
 rw [runT_crowd_comm hi h]
 simp [communicate, ways, scase, hc, choose, Sem.run, Question.forced, bind, Sem.bind, pure, crowd, runtimePanic, program, goPanic]
theorem still_app {fn : FuncId} {pos : String} {es : Array Event} {u : Array MemOp} (h : ∀ e ∈ es, MildEv e) (hu : ∀ op ∈ u, StillOp op) : ∀ op ∈ MemOp.ofEvents 0 fn pos es ++ u, StillOp op :=
 fun op hop => (Array.mem_append.1 hop).elim (still_ofEvents h op) (hu op)
section
variable {fr : Frame} {new : List Frame} {w0 w1 : World} {es : Array Event} {n : Nat} {c : CommCase} {sh : CommShape}
theorem lstep_set {fr' : Frame} {w2 : World} {r cap' : Nat} {buf' : Array Value} {cl' : Bool} {s' rv' : Nat} {tm' : Bool} (h : CommO P fr new w0 #[c] true sh w1 es n) (e2 : w2 = w1.setChan r cap' buf' cl' s' rv' tm')
  (hr : ∀ (cs : List Frame) (gs : Array Goroutine) (sl : Option (Nat × Nat)) (Z : Nat → Prop) (w w' : World), gs[0]? = some (G fr (new ++ cs)) → Alone gs → Over Z w' w1 → stepG P true (G fr (new ++ cs)) w = .comm (G fr (new ++ cs)) #[c] true sh w' es →
   ∃ u, runT P (crowd gs w sl) 0 = (.next (crowd (gs.setIfInBounds 0 (G fr' (new ++ cs))) (w'.setChan r cap' buf' cl' s' rv' tm') sl), MemOp.ofEvents 0 fr.fn fr.place es ++ u) ∧ ∀ op ∈ u, StillOp op) : LStep P fr new w0 fr' new w2 n := by
 subst e2
 refine ⟨plain_set h.plain (by simp [Bad]), h.tape, h.drawn, by simpa [World.setChan] using h.grows, fun cs gs sl Z w h0 ha hw hag => ?_⟩
 obtain ⟨w', h1, h2, h3, h4, h5⟩ := h.over cs true Z w hw hag
 obtain ⟨u, h6, h7⟩ := hr cs gs sl Z w w' h0 ha h2 h1
 refine ⟨_, _, h6, h2.comm, h3, h4, fun b hb => ?_, still_app h.evs h7⟩
 obtain ⟨h8, h9⟩ := set_kept (w := w') (by simp) hb
 obtain ⟨h10, h11⟩ := h5 b h8
 exact ⟨h10, h9.trans h11⟩
theorem lstep_same {fr' : Frame} (h : CommO P fr new w0 #[c] true sh w1 es n)
  (hr : ∀ (cs : List Frame) (gs : Array Goroutine) (sl : Option (Nat × Nat)) (Z : Nat → Prop) (w w' : World), gs[0]? = some (G fr (new ++ cs)) → Alone gs → Over Z w' w1 → stepG P true (G fr (new ++ cs)) w = .comm (G fr (new ++ cs)) #[c] true sh w' es →
   ∃ u, runT P (crowd gs w sl) 0 = (.next (crowd (gs.setIfInBounds 0 (G fr' (new ++ cs))) w' sl), MemOp.ofEvents 0 fr.fn fr.place es ++ u) ∧ ∀ op ∈ u, StillOp op) : LStep P fr new w0 fr' new w1 n := by
 refine ⟨h.plain, h.tape, h.drawn, h.grows, fun cs gs sl Z w h0 ha hw hag => ?_⟩
 obtain ⟨w', h1, h2, h3, h4, h5⟩ := h.over cs true Z w hw hag
 obtain ⟨u, h6, h7⟩ := hr cs gs sl Z w w' h0 ha h2 h1
 exact ⟨_, _, h6, h2, h3, h4, h5, still_app h.evs h7⟩
theorem comm_kind (h : CommO P fr new w0 #[c] true sh w1 es n) :
  (∃ fr' w2, ((∃ v, fr' = fr.finish v) ∨ ∃ ch, fr' = fr.raise ch) ∧ LStep P fr new w0 fr' new w2 n) ∨ BadM P (lone fr (new ++ [sen P]) w0) := by
 have g0 : ∀ cs : List Frame, (#[G fr (new ++ cs)] : Array Goroutine)[0]? = some (G fr (new ++ cs)) := fun _ => rfl
 rcases meets (P := P) c sh fr w1 with hill | hw | ⟨r, v, z, cap, s, rv, buf, tm, rfl, hc, hroom⟩ | ⟨r, v, z, cap, s, rv, buf, tm, rfl, hc⟩ | ⟨r, z, cap, s, rv, buf, cl, tm, rfl, hc, hsome⟩ | ⟨r, z, cap, s, rv, tm, rfl, hc⟩
 ·refine .inr ?_
  have hr := runT_crowd_comm (P := P) (sl := none) (i := 0) (g0 [sen P]) (h.here [sen P] true)
  refine bad_of_ended (o := .stuck "a communication at a channel whose block is no channel's" ((G fr (new ++ [sen P])).frame.pos P)) (w := w1) ?_
  rw [lone_eq, step_solo rfl, hr]
  simp only
  unfold communicate
  dsimp only
  have h1 : (#[c] : Array CommCase).any (illMade w1) = true := by simp [hill]
  rw [if_pos]
  exact h1
 ·refine .inr ?_
  have hr := crowd_waits (P := P) (sl := none) (i := 0) (g0 [sen P]) (h.here [sen P] true) fun cc hcc => by
   simp only [List.mem_toArray, List.mem_cons, List.not_mem_nil, or_false] at hcc
   subst hcc
   exact hw _ (alone_one _)
  refine bad_of_next (m' := crowd (#[G fr (new ++ [sen P])].setIfInBounds 0 (parked (G fr (new ++ [sen P])) #[c] sh)) w1 none) (by rw [lone_eq, step_solo rfl, hr]) ?_
  exact bad_blocked (g := parked (G fr (new ++ [sen P])) #[c] sh) rfl
 ·refine .inl ⟨fr.finish (commResult #[scase r v z] sh 0 undef false), _, .inl ⟨_, rfl⟩, lstep_set (r := r) (cap' := cap) (buf' := buf.push v) (cl' := false) (s' := s + 1) (rv' := rv) (tm' := tm) h rfl fun cs gs sl Z w w' h0 ha hw hst => ?_⟩
  have hr := crowd_send_room (P := P) (sl := sl) (i := 0) h0 hst (hw.get hc (by simp)) hroom (partners_alone ha r false)
  exact ⟨_, hr, by simp [StillOp]⟩
 ·refine .inl ⟨fr.raise [{ v := .iface P.rt.plainError (strVal "send on closed channel"), recovered := false }], _, .inr ⟨_, rfl⟩, lstep_same h fun cs gs sl Z w w' h0 ha hw hst => ?_⟩
  have hr := crowd_send_shut (P := P) (sl := sl) (i := 0) h0 hst (hw.get hc (by simp))
  exact ⟨_, hr, by simp [StillOp]⟩
 ·refine .inl ⟨fr.finish (commResult #[rcase r z] sh 0 (buf.getD 0 undef) true), _, .inl ⟨_, rfl⟩, lstep_set (r := r) (cap' := cap) (buf' := buf.extract 1 buf.size) (cl' := cl) (s' := s) (rv' := rv + 1) (tm' := tm) h rfl fun cs gs sl Z w w' h0 ha hw hst => ?_⟩
  have hr := crowd_recv_buf (P := P) (sl := sl) (i := 0) h0 hst (hw.get hc (by simp)) hsome (partners_alone ha r true)
  exact ⟨_, hr, by simp [StillOp]⟩
 ·refine .inl ⟨fr.finish (commResult #[rcase r z] sh 0 z false), _, .inl ⟨_, rfl⟩, lstep_same h fun cs gs sl Z w w' h0 ha hw hst => ?_⟩
  have hr := crowd_recv_closed (P := P) (sl := sl) (i := 0) h0 hst (hw.get hc (by simp)) (partners_alone ha r true)
  exact ⟨_, hr, by simp [StillOp]⟩
end
theorem step_lone (hB : Bare P) (hP : OkProg P) {fr : Frame} {new : List Frame} {w0 : World} (ok : OkFrame P fr) (oks : ∀ f ∈ new, OkFrame P f) (bot : (new.getLast?.getD fr).kind = .normal) (hp : PlainW w0) :
  (∃ (fr' : Frame) (new' : List Frame) (w1 : World) (n : Nat), LStep P fr new w0 fr' new' w1 n ∧ OkFrame P fr' ∧ (∀ f ∈ new', OkFrame P f) ∧ (new'.getLast?.getD fr').kind = .normal) ∨ BadM P (lone fr (new ++ [sen P]) w0) := by
 rcases step_kind hB hP ok oks bot hp with ⟨fr', new', w1, es, n, h, ok', oks', bot'⟩ | ⟨cases, bl, sh, w1, es, n, h, hm, ⟨⟨c, rfl⟩, rfl⟩, _⟩ | hodd | hend | ⟨rfl, hm, hd⟩
 ·exact .inl ⟨fr', new', w1, n, lstep_go h, ok', oks', bot'⟩
 ·rcases comm_kind h with ⟨fr', w2, hf, hl⟩ | hb
  ·refine .inl ⟨fr', new, w2, n, hl, ?_, oks, ?_⟩
   ·rcases hf with ⟨v, rfl⟩ | ⟨ch, rfl⟩
    ·exact finish_ok ok v
    ·exact raise_ok ok ch
   ·rcases hf with ⟨v, rfl⟩ | ⟨ch, rfl⟩
    ·exact bot_same bot (finish_kind fr v)
    ·exact bot_same bot (raise_kind fr ch)
  ·exact .inr hb
 ·exact .inr (bad_odd (hodd [sen P] true))
 ·obtain ⟨o, w, es, h⟩ := hend [sen P] true
  exact .inr (bad_of_ended (step_solo_ended rfl h))
 ·exact .inr (bad_leave hm hd (by simpa using bot))
variable {P : Program}
def _root_.Go.World.on (w : World) (τ : Tape) (d : Nat) : World := { w with tape := τ, drawn := d }
theorem plain_on {w : World} (h : PlainW w) (τ : Tape) (d : Nat) : PlainW (w.on τ d) := h
inductive Tree (P : Program) (X : Frame → World → Prop) : Frame → List Frame → World → Prop
 | done {fr : Frame} {w : World} (h : ∃ τ d, X fr (w.on τ d)) (ok : OkFrame P fr) (hk : fr.kind = .normal) : Tree P X fr [] w
 | step {fr : Frame} {new : List Frame} {w : World} (F : Tape → Nat → Frame × List Frame × World × Nat)
   (h : ∀ τ d, LStep P fr new (w.on τ d) (F τ d).1 (F τ d).2.1 (F τ d).2.2.1 (F τ d).2.2.2)
   (k : ∀ τ d, Tree P X (F τ d).1 (F τ d).2.1 (F τ d).2.2.1) : Tree P X fr new w
theorem Tree.on {X : Frame → World → Prop} {fr : Frame} {new : List Frame} {w : World} (h : Tree P X fr new w) (τ : Tape) (d : Nat) : Tree P X fr new (w.on τ d) := by
 cases h with
 | done h ok hk => exact .done h ok hk
 | step F h k => exact .step F h k
def Till (P : Program) (X : Frame → World → Prop) (fr : Frame) (w0 : World) : Prop :=
 ∀ τ d, ∃ (k : Nat) (fr' : Frame) (w' : World), runN P k (lone fr [sen P] (w0.on τ d)) = .next (lone fr' [sen P] w') ∧ X fr' w'
theorem over_on {Z : Nat → Prop} {w w0 : World} (h : Over Z w w0) (τ τ' : Tape) (d d' : Nat) : Over Z (w.on τ d) (w0.on τ' d') := h.tapes τ τ' d d'
theorem over_self (w : World) : Over (fun _ => False) w w := ⟨rfl, rfl, rfl, fun _ _ => rfl, fun _ h => h.elim⟩
theorem over_eq {w w1 : World} {τ : Tape} {d : Nat} (h : Over (fun _ => False) w w1) (ht : w.tape = τ) (hd : w.drawn = d) : w = w1.on τ d := by
 obtain ⟨h1, h2, h3, h4, _⟩ := h
 have hh : w.heap = w1.heap := by
  apply Array.ext_getElem?
  intro i
  exact h4 i (fun x => x)
 cases w; cases w1
 simp_all [World.on]
theorem lstep_shift {fr fr' : Frame} {new new' : List Frame} {w w1 : World} {τ τ' : Tape} {d d' n : Nat} (h : LStep P fr new (w.on τ' d') fr' new' w1 n) (ha : Agree τ d τ' d' n) :
  LStep P fr new (w.on τ d) fr' new' (w1.on τ (d + n)) n := by
 refine ⟨h.plain, rfl, rfl, h.grows, fun cs gs sl Z v h0 hal hv hag => ?_⟩
 obtain ⟨v', ops, h1, h2, h3, h4, h5, h6⟩ := h.over cs gs sl Z v h0 hal (over_on hv v.tape τ' v.drawn d') fun j q hj => (hag j q hj).trans (ha j q hj)
 exact ⟨v', ops, h1, over_on h2 v'.tape τ v'.drawn (d + n), h3, h4, h5, h6⟩
theorem lone_inj {fr fr' : Frame} {cs cs' : List Frame} {w w' : World} (h : lone fr cs w = lone fr' cs' w') : fr = fr' ∧ cs = cs' ∧ w = w' := by
 have h1 : #[G fr cs] = #[G fr' cs'] := congrArg Machine.gs h
 simp only [Array.mk.injEq, List.cons.injEq, and_true] at h1
 exact ⟨congrArg Goroutine.frame h1, congrArg Goroutine.callers h1, congrArg Machine.world h⟩
section
variable {X : Frame → World → Prop} {fr0 : Frame} {w0 : World}
structure Conf where
 fr : Frame
 new : List Frame
 w : World
structure Bd (P : Program) (X : Frame → World → Prop) (fr0 : Frame) (w0 : World) (k : Nat) (c : Conf) : Prop where
 na : ¬ Tree P X c.fr c.new c.w
 ok : OkFrame P c.fr
 oks : ∀ f ∈ c.new, OkFrame P f
 bot : (c.new.getLast?.getD c.fr).kind = .normal
 plain : PlainW c.w
 run : ∀ σ : Tape, (∀ i q, i < c.w.drawn → σ i q = c.w.tape i q) → runN P k (lone fr0 [sen P] (w0.on σ 0)) = .next (lone c.fr (c.new ++ [sen P]) (c.w.on σ c.w.drawn))
 notX : ∀ j, j ≤ k → ∀ σ : Tape, (∀ i q, i < c.w.drawn → σ i q = c.w.tape i q) → ∀ (fr' : Frame) (w' : World), runN P j (lone fr0 [sen P] (w0.on σ 0)) = .next (lone fr' [sen P] w') → ¬ X fr' w'
theorem not_tree {fr : Frame} {new : List Frame} {w : World} (h : ¬ Tree P X fr new w) : ∃ τ d, ∀ fr' new' w1 n, LStep P fr new (w.on τ d) fr' new' w1 n → ¬ Tree P X fr' new' w1 := by
 apply Classical.byContradiction
 intro hc
 have hall : ∀ τ d, ∃ x : Frame × List Frame × World × Nat, LStep P fr new (w.on τ d) x.1 x.2.1 x.2.2.1 x.2.2.2 ∧ Tree P X x.1 x.2.1 x.2.2.1 := by
  intro τ d
  apply Classical.byContradiction
  intro hx
  exact hc ⟨τ, d, fun fr' new' w1 n h1 h2 => hx ⟨(fr', new', w1, n), h1, h2⟩⟩
 exact h (.step (fun τ d => Classical.choose (hall τ d)) (fun τ d => (Classical.choose_spec (hall τ d)).1) fun τ d => (Classical.choose_spec (hall τ d)).2)
theorem runN_one (m : Machine) : runN P 1 m = step P m := by
 unfold runN
 cases h : step P m <;> simp [runN]
theorem Bd.next (hB : Bare P) (hP : OkProg P) (hT : Till P X fr0 w0) {k : Nat} {c : Conf} (h : Bd P X fr0 w0 k c) :
  ∃ c', Bd P X fr0 w0 (k + 1) c' ∧ c.w.drawn ≤ c'.w.drawn ∧ ∀ i q, i < c.w.drawn → c'.w.tape i q = c.w.tape i q := by
 obtain ⟨fr, new, w⟩ := c
 obtain ⟨na, ok, oks, bot, plain, hrun, notX⟩ := h
 dsimp only at na ok oks bot plain hrun notX ⊢
 obtain ⟨τ, d, hno⟩ := not_tree na
 let τ' : Tape := fun i q => if i < w.drawn then w.tape i q else τ (d + (i - w.drawn)) q
 have hτ' : ∀ i q, i < w.drawn → τ' i q = w.tape i q := fun i q hi => by simp [τ', hi]
 have hag : ∀ n, Agree τ d τ' w.drawn n := fun n j q hj => by
  have e : w.drawn + j - w.drawn = j := by omega
  show τ (d + j) q = if w.drawn + j < w.drawn then w.tape (w.drawn + j) q else τ (d + (w.drawn + j - w.drawn)) q
  rw [if_neg (by omega), e]
 rcases step_lone hB hP ok oks bot (plain_on plain τ' w.drawn) with ⟨fr', new', w1, n, hl, ok', oks', bot'⟩ | hbad
 ·have hna : ¬ Tree P X fr' new' w1 := fun ht => hno fr' new' _ n (lstep_shift hl (hag n)) (ht.on _ _)
  have e1 : w1.drawn = w.drawn + n := hl.drawn
  have e2 : w1.tape = τ' := hl.tape
  have hrun' : ∀ σ : Tape, (∀ i q, i < w1.drawn → σ i q = w1.tape i q) → runN P (k + 1) (lone fr0 [sen P] (w0.on σ 0)) = .next (lone fr' (new' ++ [sen P]) (w1.on σ w1.drawn)) := by
   intro σ hσ
   rw [e1, e2] at hσ
   have hk := hrun σ fun i q hi => (hσ i q (by omega)).trans (hτ' i q hi)
   obtain ⟨w', ops, h1, h2, h3, h4, _, _⟩ := hl.over [sen P] #[G fr (new ++ [sen P])] none (fun _ => False) (w.on σ w.drawn) rfl (alone_one _) (over_on (over_self w) σ τ' w.drawn w.drawn) fun j q hj => hσ _ q (by
    show w.drawn + j < w.drawn + n
    omega)
   have ew : w' = w1.on σ w1.drawn := over_eq h2 h3 (by rw [h4, e1]; rfl)
   rw [runN_add, hk]
   show runN P 1 (lone fr (new ++ [sen P]) (w.on σ w.drawn)) = _
   rw [runN_one, lone_eq, step_solo rfl, h1, ew]
   simp [lone_eq]
  refine ⟨⟨fr', new', w1⟩, ⟨hna, ok', oks', bot', hl.plain, hrun', fun j hj σ hσ fr2 w2 hr => ?_⟩, by rw [e1]; omega, fun i q hi => by
   show w1.tape i q = _
   rw [e2]; exact hτ' i q hi⟩
  rcases Nat.lt_or_ge j (k + 1) with hlt | hge
  ·refine notX j (by omega) σ (fun i q hi => ?_) fr2 w2 hr
   have := hσ i q (by show i < w1.drawn; omega)
   rw [this]
   show w1.tape i q = _
   rw [e2]; exact hτ' i q hi
  ·obtain rfl : j = k + 1 := by omega
   rw [hrun' σ hσ] at hr
   obtain ⟨h1, h2, h3⟩ := lone_inj (Stepped.next.inj hr)
   have hnil : new' = [] := by
    cases new' with
    | nil => rfl
    | cons a l =>
     have := congrArg List.length h2
     simp at this
   subst hnil h1
   intro hx
   exact hna (.done ⟨σ, w1.drawn, h3 ▸ hx⟩ ok' (by simpa using bot'))
 ·exfalso
  obtain ⟨m, fr2, w2, hr, hx⟩ := hT τ' 0
  rcases Nat.lt_or_ge k m with hlt | hge
  ·obtain ⟨j, rfl⟩ : ∃ j, m = k + (j + 1) := ⟨m - k - 1, by omega⟩
   rw [runN_add, hrun τ' hτ'] at hr
   exact hbad j fr2 w2 hr
  ·exact notX m hge τ' hτ' fr2 w2 hr hx
theorem Till.tree (hB : Bare P) (hP : OkProg P) (ok : OkFrame P fr0) (hk : fr0.kind = .normal) (hp : PlainW w0) (hT : Till P X fr0 w0) : Tree P X fr0 [] w0 := by
 apply Classical.byContradiction
 intro hN
 let c0 : Conf := ⟨fr0, [], w0.on (fun _ _ => 0) 0⟩
 have h0 : Bd P X fr0 w0 0 c0 := by
  refine ⟨fun ht => hN (by have := ht.on w0.tape w0.drawn; exact this), ok, by simp [c0], by simpa [c0] using hk, hp, fun σ _ => rfl, fun j hj σ _ fr' w' hr hx => ?_⟩
  obtain rfl : j = 0 := by omega
  obtain ⟨h1, _, h3⟩ := lone_inj (Stepped.next.inj hr)
  subst h1
  exact hN (.done ⟨σ, 0, h3 ▸ hx⟩ ok hk)
 let seq : (k : Nat) → { c : Conf // Bd P X fr0 w0 k c } := fun k => Nat.rec ⟨c0, h0⟩ (fun k x => ⟨Classical.choose (x.2.next hB hP hT), (Classical.choose_spec (x.2.next hB hP hT)).1⟩) k
 have hstep : ∀ k, (seq k).1.w.drawn ≤ (seq (k + 1)).1.w.drawn ∧ ∀ i q, i < (seq k).1.w.drawn → (seq (k + 1)).1.w.tape i q = (seq k).1.w.tape i q :=
  fun k => (Classical.choose_spec ((seq k).2.next hB hP hT)).2
 have hmono : ∀ a b, (seq a).1.w.drawn ≤ (seq (a + b)).1.w.drawn ∧ ∀ i q, i < (seq a).1.w.drawn → (seq (a + b)).1.w.tape i q = (seq a).1.w.tape i q := by
  intro a b
  induction b with
  | zero => exact ⟨Nat.le_refl _, fun _ _ _ => rfl⟩
  | succ b ih => exact ⟨Nat.le_trans ih.1 (hstep (a + b)).1, fun i q hi => ((hstep (a + b)).2 i q (by have := ih.1; omega)).trans (ih.2 i q hi)⟩
 have hsame : ∀ a b i q, i < (seq a).1.w.drawn → i < (seq b).1.w.drawn → (seq a).1.w.tape i q = (seq b).1.w.tape i q := by
  intro a b i q ha hb
  rcases Nat.le_total a b with h | h
  ·obtain ⟨x, rfl⟩ := Nat.exists_eq_add_of_le h
   exact ((hmono a x).2 i q ha).symm
  ·obtain ⟨x, rfl⟩ := Nat.exists_eq_add_of_le h
   exact (hmono b x).2 i q hb
 let σ : Tape := fun i q => @dite _ (∃ k, i < (seq k).1.w.drawn) (Classical.propDecidable _) (fun h => (seq (Classical.choose h)).1.w.tape i q) fun _ => 0
 have hσ : ∀ k i q, i < (seq k).1.w.drawn → σ i q = (seq k).1.w.tape i q := by
  intro k i q hi
  have h : ∃ k, i < (seq k).1.w.drawn := ⟨k, hi⟩
  have : σ i q = (seq (Classical.choose h)).1.w.tape i q := by
   show @dite _ (∃ k, i < (seq k).1.w.drawn) (Classical.propDecidable _) (fun h => (seq (Classical.choose h)).1.w.tape i q) (fun _ => 0) = _
   rw [dif_pos h]
  rw [this]
  exact hsame _ _ i q (Classical.choose_spec h) hi
 obtain ⟨m, fr', w', hr, hx⟩ := hT σ 0
 exact (seq m).2.notX m (Nat.le_refl _) σ (hσ m) fr' w' hr hx
end
end Go.Ov
namespace Go.Ov
open Go.Conc
open Go.ConcN (sumTo upd sumTo_upd upd_ne upd_same)
def Fin (P : Program) (Post : Value → World → Prop) (m : Machine) (t : Trace) : Prop :=
 ∃ N last o w' t', runNT P (N + 1) m t = (.ended o w', t') ∧ runN P N m = .next last ∧ step P last = .ended o w' ∧ Good P Post last o w' t'
section
variable {P : Program} {Post : Value → World → Prop} {m m' : Machine} {t : Trace} {ops : Array MemOp}
theorem Fin.step (hs : stepT P m = (.next m', ops)) (h : Fin P Post m' (t ++ ops)) : Fin P Post m t := by
 obtain ⟨N, last, o, w', t', h1, h2, h3, h4⟩ := h
 refine ⟨N + 1, last, o, w', t', ?_, ?_, h3, h4⟩
 ·rw [runNT, hs]; exact h1
 ·have : Go.step P m = .next m' := by unfold Go.step; rw [hs]
  simp only [runN, this]; exact h2
theorem Fin.last {o : Outcome} {w : World} (hs : stepT P m = (.ended o w, ops)) (h : Good P Post m o w (t ++ ops)) : Fin P Post m t :=
 ⟨0, m, o, w, t ++ ops, by simp [runNT, hs], rfl, by unfold Go.step; rw [hs], h⟩
end
theorem act_low (a : MemAct) : ∃ B, a.low B := by
 cases a with
 | access e =>
  obtain ⟨loc, wr, s⟩ := e
  cases loc with
  | cell a => exact ⟨a.block + 1, Nat.lt_succ_self _⟩
  | obj r => exact ⟨r + 1, Nat.lt_succ_self _⟩
  | _ => exact ⟨0, trivial⟩
 | mark m => cases m <;> first | exact ⟨0, trivial⟩ | exact ⟨_, Nat.lt_succ_self _⟩
 | go _ | start => exact ⟨0, trivial⟩
 | send _ _ | sendDone _ _ | recv _ _ _ | recvDone _ _ | close _ | recvClosed _ => exact ⟨_, Nat.lt_succ_self _⟩
theorem ops_low (u : Array MemOp) (B : Nat) : ∃ B', B ≤ B' ∧ ∀ op ∈ u, op.act.low B' := by
 obtain ⟨l⟩ := u
 induction l with
 | nil => exact ⟨B, Nat.le_refl _, by simp⟩
 | cons x l ih =>
  obtain ⟨B1, h1, h2⟩ := ih
  obtain ⟨B2, h3⟩ := act_low x.act
  refine ⟨max B1 B2, by omega, fun op hop => ?_⟩
  simp only [List.mem_toArray, List.mem_cons] at hop
  rcases hop with rfl | hop
  ·exact MemAct.low_mono (by omega) h3
  ·exact MemAct.low_mono (by omega) (h2 op (by simpa using hop))
abbrev None : Loc → Prop := fun _ => False
theorem _root_.Go.Conc.Past.still {B : Nat} {t : Trace} (h : Past None B t) {u : Array MemOp} (hu : ∀ op ∈ u, StillOp op) : ∃ B', Past None B' (t ++ u) := by
 obtain ⟨B', hB, hl⟩ := ops_low u B
 exact ⟨B', (h.mono hB).app0 (fun op hop => (hu op hop).1) (fun op _ b _ hb => hb.elim) (Go.ConcN.Deaf_still t 0 u fun op hop => (hu op hop).2) hl⟩
theorem _root_.Go.Conc.Leavers.alone {P : Program} {t : Trace} {gs : Array Goroutine} {q : Nat → Nat} (h : Leavers P t gs q) : Alone gs := fun i g hi hg => (h.old i g hi hg).status
theorem _root_.Go.Conc.Leavers.awake {P : Program} {t : Trace} {gs : Array Goroutine} {q : Nat → Nat} (h : Leavers P t gs q) {a : Goroutine} (h0 : gs[0]? = some a) (ha : a.status = .running) : ∀ g ∈ gs, Conc.awake g := by
 intro g hg
 obtain ⟨i, hi, rfl⟩ := Array.mem_iff_getElem.1 hg
 rcases Nat.eq_zero_or_pos i with rfl | hpos
 ·have : gs[0] = a := by simpa [Array.getElem?_eq_getElem hi] using h0
  rw [this]; exact awake_of (.inl ha)
 ·exact awake_of ((h.old i _ hpos (Array.getElem?_eq_getElem hi)).status.elim .inl fun x => .inr (.inr x))
theorem _root_.Go.Conc.Leavers.own {P : Program} {t : Trace} {gs : Array Goroutine} {q : Nat → Nat} (h : Leavers P t gs q) {u : Trace} (hu : ∀ op ∈ u, op.g = 0) (h0 : 0 < gs.size) (x : Goroutine) : Leavers P (t ++ u) (gs.setIfInBounds 0 x) q :=
 ⟨fun j y hj hy => by
  rw [Array.getElem?_setIfInBounds_ne (by omega)] at hy
  rw [Deaf_other t (g' := 0) (by omega) u hu]
  exact h.old j y hj hy, fun j hj => by
  rw [Deaf_other t (g' := 0) (by simp at hj; omega) u hu]
  exact h.above j (by simpa using hj)⟩
theorem leaver_slips {P : Program} {gs : Array Goroutine} {w : World} {sl : Option (Nat × Nat)} {t : Trace} {q : Nat → Nat} {B i : Nat} {a g : Goroutine} (hL : Leavers P t gs q) (hP : Past None B t) (h0 : gs[0]? = some a) (ha : a.status = .running)
  (hpos : 0 < i) (hi : gs[i]? = some g) (hg : g.status = .running) :
  ∃ gs' ops q', runT P (crowd gs w sl) i = (.next (crowd gs' w sl), ops) ∧ gs'[0]? = some a ∧ Leavers P (t ++ ops) gs' q' ∧ Past None B (t ++ ops) ∧ gs'.size = gs.size ∧ sumTo gs.size q' < sumTo gs.size q := by
 have hq := hL.old i g hpos hi
 have hi0 : (i == 0) = false := by simp; omega
 have hlt : i < gs.size := (Array.getElem?_eq_some_iff.1 hi).1
 cases hqi : q i with
 | zero => rw [hqi] at hq; rw [hq.1] at hg; cases hg
 | succ k =>
  rw [hqi] at hq
  rcases hq with ⟨hf, _⟩ | ⟨_, g', es, hm, hstp, hq'⟩
  ·rw [hf] at hg; cases hg
  have hrunT := runT_crowd_go (P := P) (sl := sl) (i := i) hi (by rw [hi0]; exact hstp w)
  have hsum : sumTo gs.size (upd q i k) + (k + 1) = sumTo gs.size q + k := by
   have := sumTo_upd q k id hlt
   simpa [hqi] using this
  refine ⟨_, _, upd q i k, hrunT, ?_, ⟨fun j x hj hx => ?_, fun j hj => ?_⟩, hP.mute (by omega) hm, by simp, by omega⟩
  ·have hne : i ≠ 0 := by omega
   rw [Array.getElem?_setIfInBounds_ne hne, Array.getElem?_map, h0]
   simp [woken_run ha]
  ·by_cases hji : i = j
   ·subst hji
    rw [Array.getElem?_setIfInBounds_self_of_lt (by simpa using hlt)] at hx
    obtain rfl := Option.some.inj hx
    rw [upd_same, Deaf_own]
    exact hq'
   ·rw [Array.getElem?_setIfInBounds_ne hji, Array.getElem?_map] at hx
    obtain ⟨y, hy, rfl⟩ := Option.map_eq_some_iff.1 hx
    have hqj := hL.old j y hj hy
    rw [woken_quitsD hqj, upd_ne q k (Ne.symm hji), Deaf_other t hji _ (fun op hop => by obtain ⟨e, _, rfl⟩ := Go.Conc.mem_ofEvents hop; rfl)]
    exact hqj
  ·rw [Deaf_other t (g' := i) (by simp at hj; omega) _ (fun op hop => by obtain ⟨e, _, rfl⟩ := Go.Conc.mem_ofEvents hop; rfl)]
   exact hL.above j (by simpa using hj)
structure Row where
 P : Program
 bare : Bare P
 okp : OkProg P
 Post : Value → World → Prop
 W : World
 W0 : World
def Row.Runs (R : Row) (fr : Frame) (cs : List Frame) (w0 : World) : Prop :=
 ∀ (gs : Array Goroutine) (sl : Option (Nat × Nat)) (t : Trace) (q : Nat → Nat) (B : Nat) (Z : Nat → Prop) (w : World),
  gs[0]? = some (G fr cs) → Leavers R.P t gs q → Past None B t → Over Z w w0 → Keeps R.W R.W0 w w0 → Fin R.P R.Post (crowd gs w sl) t
section
variable {R : Row} {fr : Frame} {cs new : List Frame} {w0 : World}
theorem Keeps.trans {w w0 w' w1 v v1 : World} (h : Keeps w w0 w' w1) (k : Keeps w' w1 v v1) : Keeps w w0 v v1 := fun b hb =>
 have ⟨h1, h2⟩ := k b hb
 have ⟨h3, h4⟩ := h b h1
 ⟨h3, h2.trans h4⟩
theorem Row.Runs.on {τ : Tape} {d : Nat} (h : R.Runs fr cs (w0.on τ d)) : R.Runs fr cs w0 := fun gs sl t q B Z w h0 hL hP hw hk =>
 h gs sl t q B Z w h0 hL hP (over_on hw w.tape τ w.drawn d) hk
theorem Row.Runs.step (h : ∀ (τ : Tape) (d : Nat), ∃ fr' new' w1 n, LStep R.P fr new (w0.on τ d) fr' new' w1 n ∧ R.Runs fr' (new' ++ cs) w1) : R.Runs fr (new ++ cs) w0 := by
 intro gs sl t q B Z w h0 hL hP hw hk
 generalize hM : sumTo gs.size q = M
 induction M using Nat.strongRecOn generalizing gs sl t q w with
 | _ M ih =>
  obtain ⟨i, g, d, sl', hi, hg, hst⟩ := crowd_pick (P := R.P) (w := w) (sl := sl) (hL.awake h0 rfl) ⟨0, _, h0, rfl⟩
  rcases Nat.eq_zero_or_pos i with rfl | hpos
  ·obtain ⟨fr', new', w1, n, hl, hr⟩ := h w.tape d
   obtain ⟨w', ops, h1, h2, h3, h4, h5, h6⟩ := hl.over cs gs sl' Z (w.at d) h0 hL.alone (over_on hw w.tape w.tape d d) (fun _ _ _ => rfl)
   have hlt : 0 < gs.size := (Array.getElem?_eq_some_iff.1 h0).1
   obtain ⟨B', hP'⟩ := hP.still h6
   exact Fin.step (hst.trans h1) (hr _ sl' _ q B' Z w' (by simp [hlt]) (hL.own (fun op hop => (h6 op hop).1) hlt _) hP' h2 (hk.trans (fun b hb => h5 b hb)))
  ·obtain ⟨gs', ops, q', h1, h2, h3, h4, h5, h6⟩ := leaver_slips (w := w.at d) (sl := sl') hL hP h0 rfl hpos hi hg
   exact Fin.step (hst.trans h1) (ih _ (by rw [h5]; omega) gs' sl' _ q' (w.at d) h2 h3 h4 (over_on hw w.tape w0.tape d w0.drawn) hk rfl)
theorem Tree.runs {X : Frame → World → Prop} (h : Tree R.P X fr new w0) (hp : PlainW w0) (k : ∀ fr' w1, X fr' w1 → OkFrame R.P fr' → fr'.kind = .normal → PlainW w1 → R.Runs fr' cs w1) : R.Runs fr (new ++ cs) w0 := by
 induction h with
 | done h ok hk =>
  obtain ⟨τ, d, hx⟩ := h
  exact (k _ _ hx ok hk hp).on
 | step F h _ ih => exact Row.Runs.step fun τ d => ⟨_, _, _, _, h τ d, ih τ d (h τ d).plain⟩
theorem Till.runs {X : Frame → World → Prop} (ok : OkFrame R.P fr) (hk : fr.kind = .normal) (hp : PlainW w0) (hT : Till R.P X fr w0)
  (k : ∀ fr' w1, X fr' w1 → OkFrame R.P fr' → fr'.kind = .normal → PlainW w1 → R.Runs fr' cs w1) : R.Runs fr cs w0 :=
 Tree.runs (new := []) (hT.tree R.bare R.okp ok hk hp) hp k
end
end Go.Ov
namespace Go.Ov
open Go.Proofs
theorem row_144 : Extern.find Try.f144 = some (rowAt 4) := by kernel_rfl
theorem row_145 : Extern.find Try.f145 = some (rowAt 11) := by kernel_rfl
theorem row_146 : Extern.find Try.f146 = some (rowAt 0) := by kernel_rfl
theorem row_147 : Extern.find Try.f147 = some (rowAt 8) := by kernel_rfl
theorem row_148 : Extern.find Try.f148 = some (rowAt 1) := by kernel_rfl
theorem row_149 : Extern.find Try.f149 = some (rowAt 9) := by kernel_rfl
theorem row_150 : Extern.find Try.f150 = some (rowAt 2) := by kernel_rfl
theorem row_151 : Extern.find Try.f151 = some (rowAt 10) := by kernel_rfl
theorem row_152 : Extern.find Try.f152 = some (rowAt 5) := by kernel_rfl
theorem row_153 : Extern.find Try.f153 = some (rowAt 12) := by kernel_rfl
theorem row_154 : Extern.find Try.f154 = some (rowAt 6) := by kernel_rfl
theorem row_155 : Extern.find Try.f155 = some (rowAt 13) := by kernel_rfl
theorem row_157 : Extern.find Try.f157 = some (rowAt 7) := by kernel_rfl
theorem row_158 : Extern.find Try.f158 = some (rowAt 14) := by kernel_rfl
theorem row_168 : Extern.find Try.f168 = some (rowAt 15) := by kernel_rfl
theorem bare : Bare Try.prog := by
 refine bare_of Try.prog [144,145,146,147,148,149,150,151,152,153,154,155,157,158,168] (by kernel_rfl) (by kernel_rfl) (by kernel_rfl) fun f hf fn hfn => ?_
 simp only [List.mem_cons, List.not_mem_nil, or_false] at hf
 rcases hf with rfl | rfl | rfl | rfl | rfl | rfl | rfl | rfl | rfl | rfl | rfl | rfl | rfl | rfl | rfl
 ·exact ⟨4, Option.some.inj ((show Try.prog.funcs[144]? = some Try.f144 by kernel_rfl).symm.trans hfn) ▸ row_144⟩
 ·exact ⟨11, Option.some.inj ((show Try.prog.funcs[145]? = some Try.f145 by kernel_rfl).symm.trans hfn) ▸ row_145⟩
 ·exact ⟨0, Option.some.inj ((show Try.prog.funcs[146]? = some Try.f146 by kernel_rfl).symm.trans hfn) ▸ row_146⟩
 ·exact ⟨8, Option.some.inj ((show Try.prog.funcs[147]? = some Try.f147 by kernel_rfl).symm.trans hfn) ▸ row_147⟩
 ·exact ⟨1, Option.some.inj ((show Try.prog.funcs[148]? = some Try.f148 by kernel_rfl).symm.trans hfn) ▸ row_148⟩
 ·exact ⟨9, Option.some.inj ((show Try.prog.funcs[149]? = some Try.f149 by kernel_rfl).symm.trans hfn) ▸ row_149⟩
 ·exact ⟨2, Option.some.inj ((show Try.prog.funcs[150]? = some Try.f150 by kernel_rfl).symm.trans hfn) ▸ row_150⟩
 ·exact ⟨10, Option.some.inj ((show Try.prog.funcs[151]? = some Try.f151 by kernel_rfl).symm.trans hfn) ▸ row_151⟩
 ·exact ⟨5, Option.some.inj ((show Try.prog.funcs[152]? = some Try.f152 by kernel_rfl).symm.trans hfn) ▸ row_152⟩
 ·exact ⟨12, Option.some.inj ((show Try.prog.funcs[153]? = some Try.f153 by kernel_rfl).symm.trans hfn) ▸ row_153⟩
 ·exact ⟨6, Option.some.inj ((show Try.prog.funcs[154]? = some Try.f154 by kernel_rfl).symm.trans hfn) ▸ row_154⟩
 ·exact ⟨13, Option.some.inj ((show Try.prog.funcs[155]? = some Try.f155 by kernel_rfl).symm.trans hfn) ▸ row_155⟩
 ·exact ⟨7, Option.some.inj ((show Try.prog.funcs[157]? = some Try.f157 by kernel_rfl).symm.trans hfn) ▸ row_157⟩
 ·exact ⟨14, Option.some.inj ((show Try.prog.funcs[158]? = some Try.f158 by kernel_rfl).symm.trans hfn) ▸ row_158⟩
 ·exact ⟨15, Option.some.inj ((show Try.prog.funcs[168]? = some Try.f168 by kernel_rfl).symm.trans hfn) ▸ row_168⟩
theorem okProg : OkProg Try.prog := by
 have h : (Try.prog.funcs.all fun fn => match fn.body with | some c => okCode Try.prog c | none => true) = true := by kernel_rfl
 intro f fn c hf hc
 rw [Array.all_eq_true_iff_forall_mem] at h
 have := h fn (Array.mem_of_getElem? hf)
 rw [hc] at this
 exact this
end Go.Ov
namespace Go.Ov
open Go.Conc
abbrev Mem := List (Nat × Obj × Bool)
def Holds (M : Mem) (w : World) : Prop := ∀ b o r, (b, o, r) ∈ M → w.heap[b]? = some o
def Has (M : Mem) (b : Nat) (r : Bool) : Prop := ∃ o, (b, o, r) ∈ M
def In (M : Mem) (b : Nat) : Prop := ∃ r, Has M b r
def _root_.Go.Loc.at (b : Nat) : Loc → Prop
 | .cell a => a.block = b
 | .obj r => r = b
 | _ => False
structure Chg (M : Mem) (w w' : World) (M' : Mem) : Prop where
 tape : w'.tape = w.tape
 os : w'.os = w.os
 output : w'.output = w.output
 size : w.heap.size ≤ w'.heap.size
 holds : Holds M' w'
 from' : ∀ b r, Has M' b r → Has M b r ∨ (r = false ∧ Has M b true) ∨ w.heap.size ≤ b
 other : ∀ b, b < w.heap.size → ¬ Has M b true → w'.heap[b]? = w.heap[b]?
 fresh : ∀ b, w.heap.size ≤ b → ∀ o, w'.heap[b]? = some o → ∃ c e z, o = .cells c e z
 cells : ∀ b, Has M b true → ∀ o, w'.heap[b]? = some o → ∃ c e z, o = .cells c e z
def OkAct (M : Mem) (x : MemAct) : Prop := x ≠ .mark .disable ∧ x ≠ .mark .enable ∧ ∀ y, x.touch? = some y → ∃ b r, y.loc.at b ∧ Has M b r ∧ (y.write = true → r = true)
def Co (P : Program) (main : Bool) (St : Mem → Goroutine → Prop) : Nat → Mem → Goroutine → Prop
 | 0, M, g => St M g
 | n + 1, M, g => St M g ∨ (g.status = .running ∧ ∀ w, Holds M w → ∃ g' w' es M', stepG P main g w = .go g' w' es ∧ Chg M w w' M' ∧ (∀ e ∈ es, OkAct M' (.ofEvent e)) ∧ Co P main St n M' g')
theorem Co.mono {P : Program} {main : Bool} {St : Mem → Goroutine → Prop} : ∀ {n : Nat} {M : Mem} {g : Goroutine}, Co P main St n M g → Co P main St (n + 1) M g
 | 0, _, _, h => .inl h
 | n + 1, _, _, h => h.imp id fun ⟨hr, hs⟩ => ⟨hr, fun w hw =>
  have ⟨g', w', es, M', h1, h2, h3, h4⟩ := hs w hw
  ⟨g', w', es, M', h1, h2, h3, h4.mono⟩⟩
def KM (t : Trace) (g : Nat) (M : Mem) : Prop := ∀ b r, Has M b r → ∀ i a, touchAt t i = some a → a.loc.at b → (r = true ∨ a.write = true) → Knows t g i
def KN (t : Trace) (g sz : Nat) : Prop := ∀ i a b, touchAt t i = some a → a.loc.at b → sz ≤ b → Knows t g i
def Clean' (t : Trace) : Prop := ∀ said, ¬ Race said t
theorem at_unique {l : Loc} {b c : Nat} (h : l.at b) (k : l.at c) : b = c := by
 cases l with
 | cell a => exact h.symm.trans k
 | obj r => exact h.symm.trans k
 | _ => exact h.elim
section
variable {t u : Trace} {g : Nat} {M M' : Mem} {sz : Nat}
theorem touch_cases {i : Nat} {a : Touch} (h : touchAt (t ++ u) i = some a) : (touchAt t i = some a) ∨ ∃ op ∈ u, op.act.touch? = some a ∧ ∃ z, (t ++ u)[i]? = some z ∧ z = op := by
 obtain ⟨x, hx, hxa⟩ := touch_of h
 rcases getElem?_append_cases hx with ⟨_, hx'⟩ | ⟨_, hxu⟩
 ·exact .inl (by rw [touchAt_of hx']; exact hxa)
 ·exact .inr ⟨x, hxu, hxa, x, hx, rfl⟩
theorem own_ops {w w' : World} (hc : Clean' t) (hk : KM t g M) (hn : KN t g w.heap.size) (hh : Holds M w) (h : Chg M w w' M') (hu : ∀ op ∈ u, op.g = g ∧ OkAct M' op.act) : Clean' (t ++ u) ∧ KM (t ++ u) g M' ∧ KN (t ++ u) g w'.heap.size := by
 have known : ∀ b r, Has M' b r → ∀ i a, touchAt t i = some a → a.loc.at b → (r = true ∨ a.write = true) → Knows t g i := by
  intro b r hb i a ha hab hr
  rcases h.from' b r hb with h1 | ⟨rfl, h1⟩ | h1
  ·exact hk b r h1 i a ha hab hr
  ·exact hk b true h1 i a ha hab (.inl rfl)
  ·exact hn i a b ha hab h1
 refine ⟨fun said => noRace_append (hc said) (fun op hop => (hu op hop).1) fun i a ha op hop b hb hcf => ?_, fun b r hb i a ha hab hr => ?_, fun i a b ha hab hle => ?_⟩
 ·obtain ⟨c, r, h1, h2, h3⟩ := (hu op hop).2.2.2 b hb
  refine known c r h2 i a ha (hcf.1 ▸ h1) ?_
  rcases hcf.2.2.1 with hw | hw
  ·exact .inr hw
  ·exact .inl (h3 hw)
 ·rcases touch_cases ha with h1 | ⟨op, hop, _, z, hz, rfl⟩
  ·exact (known b r hb i a h1 hab hr).app u
  ·have := knows_own hz
   rwa [(hu _ hop).1] at this
 ·rcases touch_cases ha with h1 | ⟨op, hop, _, z, hz, rfl⟩
  ·exact (hn i a b h1 hab (Nat.le_trans h.size hle)).app u
  ·have := knows_own hz
   rwa [(hu _ hop).1] at this
def Apart2 (M M2 : Mem) : Prop := (∀ b, Has M b true → ¬ In M2 b) ∧ ∀ b, Has M2 b true → ¬ In M b
theorem Apart2.symm {M M2 : Mem} (h : Apart2 M M2) : Apart2 M2 M := ⟨h.2, h.1⟩
theorem other_ops {g2 sz' : Nat} {M2 : Mem} (hk : KM t g2 M2) (hn : KN t g2 sz) (hs : sz ≤ sz') (hap : Apart2 M' M2) (hlt : ∀ b r, Has M' b r → b < sz') (hu : ∀ op ∈ u, OkAct M' op.act) : KM (t ++ u) g2 M2 ∧ KN (t ++ u) g2 sz' := by
 refine ⟨fun b r hb i a ha hab hr => ?_, fun i a b ha hab hle => ?_⟩
 ·rcases touch_cases ha with h1 | ⟨op, hop, h2, z, hz, rfl⟩
  ·exact (hk b r hb i a h1 hab hr).app u
  ·exfalso
   obtain ⟨c, r', h3, h4, h5⟩ := (hu _ hop).2.2 a h2
   obtain rfl := at_unique hab h3
   rcases hr with rfl | hw
   ·exact hap.2 b hb ⟨r', h4⟩
   ·obtain rfl := h5 hw
    exact hap.1 b h4 ⟨r, hb⟩
 ·rcases touch_cases ha with h1 | ⟨op, hop, h2, z, hz, rfl⟩
  ·exact (hn i a b h1 hab (Nat.le_trans hs hle)).app u
  ·exfalso
   obtain ⟨c, r', h3, h4, h5⟩ := (hu _ hop).2.2 a h2
   obtain rfl := at_unique hab h3
   have := hlt b r' h4
   omega
theorem quiet_clean (hc : Clean' t) (hu : ∀ op ∈ u, op.act.touch? = none) : Clean' (t ++ u) := by
 intro said
 rintro ⟨i, j, hij, ⟨a, b, ha, hb, hcf⟩, n1, n2⟩
 rcases touch_cases (i := i) (a := a) ha with h1 | ⟨op, hop, h2, _⟩
 ·rcases touch_cases (i := j) (a := b) hb with h3 | ⟨op, hop, h4, _⟩
  ·exact hc said ⟨i, j, hij, ⟨a, b, h1, h3, hcf⟩, fun e => n1 (hb_app u e), fun e => n2 (hb_app u e)⟩
  ·rw [hu op hop] at h4; cases h4
 ·rw [hu op hop] at h2; cases h2
theorem quiet_touch (hu : ∀ op ∈ u, op.act.touch? = none) {i : Nat} {a : Touch} (h : touchAt (t ++ u) i = some a) : touchAt t i = some a := by
 rcases touch_cases h with h1 | ⟨op, hop, h2, _⟩
 ·exact h1
 ·rw [hu op hop] at h2; cases h2
theorem KM.quiet (h : KM t g M) (hu : ∀ op ∈ u, op.act.touch? = none) : KM (t ++ u) g M := fun b r hb i a ha hab hr => (h b r hb i a (quiet_touch hu ha) hab hr).app u
theorem KN.quiet (h : KN t g sz) (hu : ∀ op ∈ u, op.act.touch? = none) : KN (t ++ u) g sz := fun i a b ha hab hle => (h i a b (quiet_touch hu ha) hab hle).app u
theorem Deaf_keep' (t : Trace) (g : Nat) (u : Trace) (hu : ∀ op ∈ u, op.act ≠ .mark .disable ∧ op.act ≠ .mark .enable) : Deaf (t ++ u) g = Deaf t g := Go.ConcN.Deaf_still t g u hu
end
theorem okAct_ofEvents {M : Mem} {g : Nat} {fn : FuncId} {pos : String} {es : Array Event} (h : ∀ e ∈ es, OkAct M (.ofEvent e)) : ∀ op ∈ MemOp.ofEvents g fn pos es, op.g = g ∧ OkAct M op.act := by
 intro op hop
 obtain ⟨e, he, rfl⟩ := Go.Conc.mem_ofEvents hop
 exact ⟨rfl, h e he⟩
def bareG (g : Goroutine) : Goroutine := { g with status := .running, offers := none }
def AtC (P : Program) (main : Bool) (M : Mem) (g : Goroutine) (c : CommCase) (sh : CommShape) : Prop := g.status = .running ∧ ∀ w, Holds M w → stepG P main g w = .comm (bareG g) #[c] true sh w
def fin (P : Program) (g : Goroutine) (c : CommCase) (sh : CommShape) (v : Value) (ok : Bool) : Goroutine := g.finishComm P #[c] sh 0 v ok
def MC (M : Mem) : Prop := ∀ b o r, (b, o, r) ∈ M → ∃ c e z, o = .cells c e z
theorem Chg.refl {M : Mem} {w : World} (h : Holds M w) (hc : MC M) : Chg M w w M :=
 ⟨rfl, rfl, rfl, Nat.le_refl _, h, fun _ _ x => .inl x, fun _ _ _ => rfl, fun b hb o ho => absurd (lt_of_some ho) (by omega), fun b ⟨o, hb⟩ o' ho => by
  rw [h b o true hb] at ho
  obtain rfl := Option.some.inj ho
  exact hc b _ true hb⟩
theorem Chg.drew {M : Mem} {w : World} (h : Holds M w) (hc : MC M) (d : Nat) : Chg M w { w with drawn := d } M :=
 ⟨rfl, rfl, rfl, Nat.le_refl _, h, fun _ _ x => .inl x, fun _ _ _ => rfl, fun b hb o ho => absurd (lt_of_some ho) (Nat.not_lt.2 hb), fun b ⟨o, hb⟩ o' ho => by
  have ho' : w.heap[b]? = some o' := ho
  rw [h b o true hb] at ho'
  obtain rfl := Option.some.inj ho'
  exact hc b _ true hb⟩
theorem Chg.push {M : Mem} {w : World} (h : Holds M w) (hc : MC M) (c : Array Value) (e : TypeId) (z : Nat × Nat) : Chg M w { w with heap := w.heap.push (.cells c e z) } ((w.heap.size, .cells c e z, true) :: M) := by
 have hlt : ∀ b o r, (b, o, r) ∈ M → b < w.heap.size := fun b o r hb => lt_of_some (h b o r hb)
 refine ⟨rfl, rfl, rfl, by simp, fun b o r hb => ?_, fun b r ⟨o, ho⟩ => ?_, fun b hb _ => ?_, fun b hb o ho => ?_, fun b ⟨o, hb⟩ o' ho => ?_⟩
 ·simp only [List.mem_cons, Prod.mk.injEq] at hb
  show (w.heap.push _)[b]? = _
  rcases hb with ⟨rfl, rfl, _⟩ | hb
  ·simp
  ·rw [Array.getElem?_push_lt (hlt b o r hb), ← Array.getElem?_eq_getElem]
   exact h b o r hb
 ·simp only [List.mem_cons, Prod.mk.injEq] at ho
  rcases ho with ⟨rfl, _, rfl⟩ | ho
  ·exact .inr (.inr (Nat.le_refl _))
  ·exact .inl ⟨o, ho⟩
 ·show (w.heap.push _)[b]? = _
  rw [Array.getElem?_push_lt hb, ← Array.getElem?_eq_getElem]
 ·have ho' : (w.heap.push (.cells c e z))[b]? = some o := ho
  rw [Array.getElem?_push] at ho'
  split at ho'
  ·exact ⟨_, _, _, (Option.some.inj ho').symm⟩
  ·exact absurd (lt_of_some ho') (Nat.not_lt.2 hb)
 ·have ho' : (w.heap.push (.cells c e z))[b]? = some o' := ho
  rw [Array.getElem?_push_lt (hlt b o true hb), ← Array.getElem?_eq_getElem, h b o true hb] at ho'
  obtain rfl := Option.some.inj ho'
  exact hc b _ true hb
theorem Co.goes {P : Program} {main : Bool} {St : Mem → Goroutine → Prop} {n : Nat} {M : Mem} {g : Goroutine} (hr : g.status = .running)
  (h : ∀ w, Holds M w → (stepG P main g w).goes fun g' w' es => ∃ M', Chg M w w' M' ∧ (∀ e ∈ es, OkAct M' (.ofEvent e)) ∧ Co P main St n M' g') : Co P main St (n + 1) M g := by
 refine .inr ⟨hr, fun w hw => ?_⟩
 have := h w hw
 cases hs : stepG P main g w with
 | go g' w' es =>
  rw [hs, goes_go] at this
  obtain ⟨M', h1, h2, h3⟩ := this
  exact ⟨g', w', es, M', rfl, h1, h2, h3⟩
 | _ => rw [hs] at this; exact this.elim
theorem Co.stop {P : Program} {main : Bool} {St : Mem → Goroutine → Prop} {M : Mem} {g : Goroutine} (h : St M g) : ∀ n, Co P main St n M g
 | 0 => h
 | _ + 1 => .inl h
theorem Co.up {P : Program} {main : Bool} {St : Mem → Goroutine → Prop} {n : Nat} {M : Mem} {g : Goroutine} (h : Co P main St n M g) : ∀ {m : Nat}, Co P main St (n + m) M g
 | 0 => h
 | _ + 1 => Co.mono (Co.up h)
theorem Co.ctl {P : Program} {main : Bool} {St : Mem → Goroutine → Prop} {n : Nat} {M : Mem} {g g' : Goroutine} (hc : MC M) (hr : g.status = .running) (hs : ∀ w, stepG P main g w = .go g' w) (h : Co P main St n M g') : Co P main St (n + 1) M g :=
 Co.goes hr fun w hw => by rw [hs]; exact ⟨M, .refl hw hc, by simp, h⟩
theorem okRead {M : Mem} {a : Addr} {s : Bool} (h : In M a.block) : OkAct M (.ofEvent ⟨.cell a, false, s⟩) := by
 obtain ⟨r, hr⟩ := h
 refine ⟨by simp [MemAct.ofEvent], by simp [MemAct.ofEvent], fun y hy => ⟨a.block, r, ?_, hr, ?_⟩⟩
 ·simp only [MemAct.ofEvent, MemAct.touch?, Option.some.injEq] at hy
  subst hy; rfl
 ·simp only [MemAct.ofEvent, MemAct.touch?, Option.some.injEq] at hy
  subst hy; intro x; cases x
theorem okWrite {M : Mem} {a : Addr} (h : Has M a.block true) : OkAct M (.ofEvent ⟨.cell a, true, false⟩) := by
 refine ⟨by simp [MemAct.ofEvent], by simp [MemAct.ofEvent], fun y hy => ⟨a.block, true, ?_, h, fun _ => rfl⟩⟩
 simp only [MemAct.ofEvent, MemAct.touch?, Option.some.injEq] at hy
 subst hy; rfl
theorem Holds.cell {M : Mem} {w : World} (h : Holds M w) {b i : Nat} {cs : Array Value} {t : TypeId} {z : Nat × Nat} {r : Bool} {v : Value} (hm : (b, .cells cs t z, r) ∈ M) (hv : cs[i]? = some v) : w.cell? ⟨b, i, none⟩ = some v := by
 have := h b _ r hm
 simp [World.cell?, this, hv]
theorem MC.cons {M : Mem} (h : MC M) (b : Nat) (c : Array Value) (e : TypeId) (z : Nat × Nat) (r : Bool) : MC ((b, .cells c e z, r) :: M) := fun b' o r' hb => by
 simp only [List.mem_cons, Prod.mk.injEq] at hb
 rcases hb with ⟨_, rfl, _⟩ | hb
 ·exact ⟨_, _, _, rfl⟩
 ·exact h b' o r' hb
section
variable {P : Program} {main : Bool} {St : Mem → Goroutine → Prop} {n : Nat} {M : Mem} {b : Frame} {a : Act} {k : List Item} {cs : List Frame} {ops : Array Oper} {i : Nat} {rest : List Nat} {o : Oper}
theorem run_call_value {w : World} {x : Operand} {xs : Array Operand} {ats : Array TypeId} {f : FuncId} {fn : Func} {cap : Array Value} (hop : o.op = .call { callee := .value x, args := xs, argTypes := ats }) (hx : a.eval x = .func (.func f) #[] cap)
  (hf : P.funcs[f]? = some fn) (hname : (fn.name == "runtime.NumGoroutine") = false) (hb : fn.body.isNone = false) : (execOp a.eval o).run P w = .ok (.enter f (xs.map a.eval ++ cap)) w := by
 have h1 : ¬ fn.name = "runtime.NumGoroutine" := by simpa using hname
 have h2 : ¬ fn.body = none := by cases hx : fn.body <;> simp_all
 unfold execOp
 simp [hop, resolve, Deferred.ofValue, invoke, callFunc, hf, h1, h2, hx]
theorem events_call_value {w : World} {x : Operand} {xs : Array Operand} {ats : Array TypeId} {f : FuncId} {fn : Func} {cap : Array Value} (hop : o.op = .call { callee := .value x, args := xs, argTypes := ats }) (hx : a.eval x = .func (.func f) #[] cap)
  (hf : P.funcs[f]? = some fn) (hname : (fn.name == "runtime.NumGoroutine") = false) (hb : fn.body.isNone = false) (es : Array Event) : (execOp a.eval o).events P w es = es := by
 have h1 : ¬ fn.name = "runtime.NumGoroutine" := by simpa using hname
 have h2 : ¬ fn.body = none := by cases hx : fn.body <;> simp_all
 unfold execOp
 simp [hop, resolve, Deferred.ofValue, invoke, callFunc, hf, h1, h2, hx]
theorem Co.call {x : Operand} {xs : Array Operand} {ats : Array TypeId} {f : FuncId} {fn : Func} {cap : Array Value} (hM : MC M) (hk : b.kind ≠ .early) (ho : ops[i]? = some o) (hw : Region.wanted o (yielded ops a.tmps) = true) (hop : o.op = .call { callee := .value x, args := xs, argTypes := ats }) (hx : a.eval x = .func (.func f) #[] cap)
  (hf : P.funcs[f]? = some fn) (hname : (fn.name == "runtime.NumGoroutine") = false) (hb : fn.body.isNone = false) (h : Co P main St n M (G (Frame.enter P f (xs.map a.eval ++ cap) .normal) (b.at a (.inRegion ops (i :: rest) :: k) :: cs))) :
  Co P main St (n + 1) M (G (b.at a (.inRegion ops (i :: rest) :: k)) cs) :=
 Co.goes rfl fun w hw' => by
  rw [stepG_enter ho hw hk (run_call_value hop hx hf hname hb), goes_go]
  refine ⟨M, .refl hw' hM, ?_, h⟩
  have : listed P b.fn a o w = #[] := by unfold listed; rw [events_call_value hop hx hf hname hb]; exact seen_none P _
  rw [this]; simp
end
theorem Chg.set {M1 M2 : Mem} {w w' : World} {b : Nat} {o : Obj} {c : Array Value} {e : TypeId} {z : Nat × Nat} (h : Holds (M1 ++ (b, o, true) :: M2) w) (hc : MC (M1 ++ (b, o, true) :: M2)) (hn : ¬ In M1 b ∧ ¬ In M2 b)
  (ht : w'.tape = w.tape) (ho : w'.os = w.os) (hu : w'.output = w.output) (hs : w'.heap = w.heap.setIfInBounds b (.cells c e z)) : Chg (M1 ++ (b, o, true) :: M2) w w' (M1 ++ (b, .cells c e z, true) :: M2) := by
 have hb : b < w.heap.size := lt_of_some (h b o true (by simp))
 have hget : ∀ x, w'.heap[x]? = if b = x then some (.cells c e z) else w.heap[x]? := fun x => by
  rw [hs, Array.getElem?_setIfInBounds]
  split
  ·rename_i hx; subst hx; simp [hb]
  ·rfl
 refine ⟨ht, ho, hu, by rw [hs]; simp, fun x p r hx => ?_, fun x r ⟨p, hx⟩ => ?_, fun x hx hno => ?_, fun x hx p hp => ?_, fun x ⟨p, hx⟩ p' hp => ?_⟩
 ·simp only [List.mem_append, List.mem_cons, Prod.mk.injEq] at hx
  rw [hget]
  rcases hx with hx | ⟨rfl, rfl, _⟩ | hx
  ·have hne : ¬ b = x := fun q => hn.1 (q ▸ ⟨r, p, hx⟩)
   rw [if_neg hne]; exact h x p r (by simp [hx])
  ·rw [if_pos rfl]
  ·have hne : ¬ b = x := fun q => hn.2 (q ▸ ⟨r, p, hx⟩)
   rw [if_neg hne]; exact h x p r (by simp [hx])
 ·simp only [List.mem_append, List.mem_cons, Prod.mk.injEq] at hx
  rcases hx with hx | ⟨rfl, _, rfl⟩ | hx
  ·exact .inl ⟨p, by simp [hx]⟩
  ·exact .inl ⟨o, by simp⟩
  ·exact .inl ⟨p, by simp [hx]⟩
 ·have hne : ¬ b = x := fun q => hno (q ▸ ⟨o, by simp⟩)
  rw [hget, if_neg hne]
 ·have := lt_of_some hp; rw [hs] at this; simp at this; omega
 ·rw [hget] at hp
  split at hp
  ·exact ⟨_, _, _, (Option.some.inj hp).symm⟩
  ·rw [h x p true hx] at hp
   obtain rfl := Option.some.inj hp
   exact hc x _ true hx
end Go.Ov
namespace Go.Ov
def rgIn (k : Nat) : Code → Option (Array Oper)
 | .region i ops _ => if Nat.beq i k then some ops else none
 | .seq x y => match rgIn k x with
  | some o => some o
  | none => rgIn k y
 | .cond _ x y => match rgIn k x with
  | some o => some o
  | none => rgIn k y
 | .block _ x => rgIn k x
 | .loop x => rgIn k x
 | .scope x => rgIn k x
 | _ => none
def rg (f : Func) (k : Nat) : Option (Array Oper) := match f.body with
 | some c => rgIn k c
 | none => none
end Go.Ov
namespace Go.Ov
open Go.Conc Go.Proofs
theorem nrm : (∀ (a : Act) (d : Nat) (v : Value), a.put (some d) v = { a with tmps := a.tmps.setIfInBounds d v }) ∧ (∀ (a : Act) (v : Value), a.put none v = a) ∧ (∀ (a : Act) (t : Nat), a.eval (.tmp t) = a.tmps.getD t undef) ∧ (∀ (a : Act) (v : Value), a.eval (.const v) = v) ∧
  (∀ (a : Act) (g : Nat), a.eval (.global g) = .pointer (some ⟨g, 0, none⟩)) ∧ (∀ (a : Act) (f : Nat), a.eval (.func f) = .func (.func f) #[] #[]) ∧ (∀ (f : Operand → Value) (l : List Operand), l.toArray.map f = (l.map f).toArray) ∧ (∀ (f : Operand → Value) (x : Operand) (l : List Operand), (x :: l).map f = f x :: l.map f) ∧ (∀ (f : Operand → Value), ([] : List Operand).map f = []) ∧
  (∀ (a : Array Value) (i : Nat) (d : Value), a.getD i d = a[i]?.getD d) ∧ (∀ (α : Type) (l : List α) (i : Nat), l.toArray[i]? = l[i]?) ∧ (∀ (α : Type) (x : α) (l : List α) (i : Nat), (x :: l)[i + 1]? = l[i]?) ∧ (∀ (α : Type) (x : α) (l : List α), (x :: l)[0]? = some x) ∧ (∀ (α : Type) (x d : α), (some x).getD d = x) ∧
  (∀ (α β : Type) (x : α) (f : α → Option β), (some x).bind f = f x) ∧ (∀ (α : Type) (l : List α), l.toArray.size = l.length) ∧ (∀ (α : Type) (x : α) (l : List α), (x :: l).length = l.length + 1) ∧ (∀ (α : Type), ([] : List α).length = 0) ∧ (∀ (n : Nat) (v : Value), Array.replicate (n + 1) v = (Array.replicate n v).push v) ∧ (∀ (v : Value), Array.replicate 0 v = #[]) ∧
  (∀ (l : List Value) (v : Value), l.toArray.push v = (l ++ [v]).toArray) ∧ (∀ (l l2 : List Value), l.toArray ++ l2.toArray = (l ++ l2).toArray) ∧ (∀ (α : Type) (l : List α), [] ++ l = l) ∧ (∀ (α : Type) (x : α) (l l2 : List α), (x :: l) ++ l2 = x :: (l ++ l2)) ∧ (∀ (l : List Value) (i : Nat) (v : Value), l.toArray.setIfInBounds i v = (l.set i v).toArray) ∧
  (∀ (x v : Value) (l : List Value) (i : Nat), (x :: l).set (i + 1) v = x :: l.set i v) ∧ (∀ (x v : Value) (l : List Value), (x :: l).set 0 v = v :: l) ∧ (∀ (α : Type) (l : List α) (i : Nat) (h : i < l.toArray.size), l.toArray[i] = l[i]'(by simpa using h)) ∧ (∀ (α : Type) (x : α) (l : List α) (i : Nat) (h : i + 1 < (x :: l).length), (x :: l)[i + 1] = l[i]'(by simpa using h)) ∧ (∀ (α : Type) (x : α) (l : List α) (h : 0 < (x :: l).length), (x :: l)[0] = x) := by
 refine ⟨fun _ _ _ => rfl, fun _ _ => rfl, fun _ _ => rfl, fun _ _ => rfl, fun _ _ => rfl, fun _ _ => rfl, ?_, fun _ _ _ => rfl, fun _ => rfl, ?_, ?_, ?_, fun _ _ _ => rfl, fun _ _ _ => rfl, fun _ _ _ _ => rfl, ?_, ?_, fun _ => rfl, ?_, ?_, ?_, ?_, fun _ _ => rfl, fun _ _ _ _ => rfl, ?_, fun _ _ _ _ => rfl, fun _ _ _ => rfl, ?_, fun _ _ _ _ _ => rfl, fun _ _ _ _ => rfl⟩
 all_goals (intros; first | rfl | simp [Array.replicate_succ])
section
variable {main : Bool} {St : Mem → Goroutine → Prop} {n : Nat} {M : Mem} {c : Frame} {cs : List Frame}
theorem co128 (x : Int) (hM : MC M) (h : Co Try.prog main St n M (G (c.finish (.int .i64 x)) cs)) : Co Try.prog main St (n + 12) M (G (Frame.enter Try.prog 128 #[.int .i64 x] .normal) (c :: cs)) := by
 rw [enter_at _ (show Try.prog.funcs[128]? = some Try.f128 by kernel_rfl) rfl]
 simp only [Try.f128]
 simp only [nrm, Nat.reduceAdd, Nat.reduceSub]
 refine Co.ctl hM rfl (fun _ => stepG_seq) ?_
 (refine Co.ctl hM rfl (fun _ => stepG_region) ?_; simp only [List.size_toArray, List.length_cons, List.length_nil, Nat.reduceAdd, Nat.zero_add, List.range, List.range.loop])
 (refine Co.goes rfl fun w hw => goes_oper_e rfl rfl (by decide) fun K E hK hE => ?_; go_simp; refine hK _ _ ⟨_, Chg.refl hw hM, ?_, ?_⟩; (rw [listed_nil (by unfold execOp; simp [go_sem])]; simp); clear hK hE hw K E w; try simp only [nrm, Nat.reduceAdd, Nat.reduceSub])
 refine Co.ctl hM rfl (fun _ => stepG_region_end) ?_
 refine Co.ctl hM rfl (fun _ => stepG_seq) ?_
 (refine Co.ctl hM rfl (fun _ => stepG_region) ?_; simp only [List.size_toArray, List.length_cons, List.length_nil, Nat.reduceAdd, Nat.zero_add, List.range, List.range.loop])
 (refine Co.goes rfl fun w hw => goes_oper_e rfl rfl (by decide) fun K E hK hE => ?_; go_simp; refine hK _ _ ⟨_, Chg.refl hw hM, ?_, ?_⟩; (rw [listed_nil (by unfold execOp; simp [go_sem])]; simp); clear hK hE hw K E w; try simp only [nrm, Nat.reduceAdd, Nat.reduceSub])
 (refine Co.goes rfl fun w hw => goes_oper_e rfl rfl (by decide) fun K E hK hE => ?_; go_simp; refine hK _ _ ⟨_, Chg.refl hw hM, ?_, ?_⟩; (rw [listed_nil (by unfold execOp; simp [go_sem])]; simp); clear hK hE hw K E w; try simp only [nrm, Nat.reduceAdd, Nat.reduceSub])
 refine Co.ctl hM rfl (fun _ => stepG_region_end) ?_
 refine Co.ctl hM rfl (fun _ => stepG_ret') ?_
 (refine Co.ctl hM rfl (fun _ => stepG_leave (fn := Try.f128) rfl rfl (by kernel_rfl) (results_tmp rfl _ _ _) (events_results_tmp rfl _ _)) ?_; try simp only [nrm, Nat.reduceAdd, Nat.reduceSub])
 exact h.mono
def bill (off : Option Int) (x : Int) : Int := match off with
 | none => x
 | some o => IntKind.i64.wrap (Int.tdiv (IntKind.i64.wrap (IntKind.i64.wrap (x * IntKind.i64.wrap (100 - o)) + 99)) 100)
theorem co130 (x o : Int) {bs : Nat} {sales : Array Value} {z : Nat × Nat} {r : Bool} (hM : MC M) (hm : (bs, .cells sales 36 z, r) ∈ M) (ho : sales[4]? = some (.int .i64 o)) (h : Co Try.prog main St n M (G (c.finish (.int .i64 (bill (some o) x))) cs)) :
  Co Try.prog main St (n + 18) M (G (Frame.enter Try.prog 130 #[.int .i64 x, .pointer (some ⟨bs, 0, none⟩)] .normal) (c :: cs)) := by
 rw [enter_at _ (show Try.prog.funcs[130]? = some Try.f130 by kernel_rfl) rfl]
 simp only [Try.f130]
 simp only [nrm, Nat.reduceAdd, Nat.reduceSub]
 refine Co.ctl hM rfl (fun _ => stepG_seq) ?_
 (refine Co.ctl hM rfl (fun _ => stepG_region) ?_; simp only [List.size_toArray, List.length_cons, List.length_nil, Nat.reduceAdd, Nat.zero_add, List.range, List.range.loop])
 (refine Co.goes rfl fun w hw => goes_oper_e rfl rfl (by decide) fun K E hK hE => ?_; go_simp; refine hK _ _ ⟨_, Chg.refl hw hM, ?_, ?_⟩; (rw [listed_nil (by unfold execOp; simp [go_sem])]; simp); clear hK hE hw K E w; try simp only [nrm, Nat.reduceAdd, Nat.reduceSub])
 refine Co.ctl hM rfl (fun _ => stepG_region_end) ?_
 refine Co.ctl hM rfl (fun _ => stepG_seq) ?_
 (refine Co.ctl hM rfl (fun _ => stepG_region) ?_; simp only [List.size_toArray, List.length_cons, List.length_nil, Nat.reduceAdd, Nat.zero_add, List.range, List.range.loop])
 (refine Co.goes rfl fun w hw => goes_oper_e rfl rfl (by decide) fun K E hK hE => ?_; go_simp; refine hK _ _ ⟨_, Chg.refl hw hM, ?_, ?_⟩; (rw [listed_nil (by unfold execOp; simp [go_sem])]; simp); clear hK hE hw K E w; try simp only [nrm, Nat.reduceAdd, Nat.reduceSub])
 (refine Co.goes rfl fun w hw => goes_oper_e rfl rfl (by decide) fun K E hK hE => ?_; go_simp; refine hK _ _ ⟨_, Chg.refl hw hM, ?_, ?_⟩; (rw [listed_nil (by unfold execOp; simp [go_sem])]; simp); clear hK hE hw K E w; try simp only [nrm, Nat.reduceAdd, Nat.reduceSub])
 (refine Co.goes rfl fun w hw => goes_oper_e rfl rfl (by decide) fun K E hK hE => ?_; go_simp; refine hK _ _ ⟨_, Chg.refl hw hM, ?_, ?_⟩; (rw [listed_nil (by unfold execOp; simp [go_sem])]; simp); clear hK hE hw K E w; try simp only [nrm, Nat.reduceAdd, Nat.reduceSub])
 have hin : In M bs := ⟨r, _, hm⟩
 (refine Co.goes rfl fun w hw => goes_oper_e rfl rfl (by decide) fun K E hK hE => ?_; have hc := (Holds.cell hw hm ho); go_simp; refine hK _ _ ⟨_, Chg.refl hw hM, ?_, ?_⟩; (intro e he; replace he := mem_listed he; unfold execOp at he; simp [go_sem, hc] at he; subst he; exact okRead (by first | assumption | simp [In, Has])); clear hc hK hE hw K E w; try simp only [nrm, Nat.reduceAdd, Nat.reduceSub])
 (refine Co.goes rfl fun w hw => goes_oper_e rfl rfl (by decide) fun K E hK hE => ?_; go_simp; refine hK _ _ ⟨_, Chg.refl hw hM, ?_, ?_⟩; (rw [listed_nil (by unfold execOp; simp [go_sem])]; simp); clear hK hE hw K E w; try simp only [nrm, Nat.reduceAdd, Nat.reduceSub])
 (refine Co.goes rfl fun w hw => goes_oper_e rfl rfl (by decide) fun K E hK hE => ?_; go_simp; refine hK _ _ ⟨_, Chg.refl hw hM, ?_, ?_⟩; (rw [listed_nil (by unfold execOp; simp [go_sem])]; simp); clear hK hE hw K E w; try simp only [nrm, Nat.reduceAdd, Nat.reduceSub])
 (refine Co.goes rfl fun w hw => goes_oper_e rfl rfl (by decide) fun K E hK hE => ?_; go_simp; refine hK _ _ ⟨_, Chg.refl hw hM, ?_, ?_⟩; (rw [listed_nil (by unfold execOp; simp [go_sem])]; simp); clear hK hE hw K E w; try simp only [nrm, Nat.reduceAdd, Nat.reduceSub])
 (refine Co.goes rfl fun w hw => goes_oper_e rfl rfl (by decide) fun K E hK hE => ?_; go_simp; refine hK _ _ ⟨_, Chg.refl hw hM, ?_, ?_⟩; (rw [listed_nil (by unfold execOp; simp [go_sem])]; simp); clear hK hE hw K E w; try simp only [nrm, Nat.reduceAdd, Nat.reduceSub])
 (refine Co.goes rfl fun w hw => goes_oper_e rfl rfl (by decide) fun K E hK hE => ?_; go_simp; refine hK _ _ ⟨_, Chg.refl hw hM, ?_, ?_⟩; (rw [listed_nil (by unfold execOp; simp [go_sem])]; simp); clear hK hE hw K E w; try simp only [nrm, Nat.reduceAdd, Nat.reduceSub])
 refine Co.ctl hM rfl (fun _ => stepG_region_end) ?_
 refine Co.ctl hM rfl (fun _ => stepG_ret') ?_
 (refine Co.ctl hM rfl (fun _ => stepG_leave (fn := Try.f130) rfl rfl (by kernel_rfl) (results_tmp rfl _ _ _) (events_results_tmp rfl _ _)) ?_; try simp only [nrm, Nat.reduceAdd, Nat.reduceSub])
 exact h
def IsBill (M : Mem) (bf : Value) : Option Int → Prop
 | none => bf = .func (.func 128) #[] #[]
 | some o => ∃ bs sales z r, bf = .func (.func 130) #[] #[.pointer (some ⟨bs, 0, none⟩)] ∧ (bs, .cells sales 36 z, r) ∈ M ∧ sales[4]? = some (.int .i64 o)
theorem co103 (x : Int) {bf : Value} {off : Option Int} (hM : MC M) (hb : IsBill M bf off) (h : ∀ M', MC M' → (∀ y ∈ M, y ∈ M') → Co Try.prog main St n M' (G (c.finish (.int .i64 (bill off x))) cs)) :
  Co Try.prog main St (n + 50) M (G (Frame.enter Try.prog 103 #[.agg #[.int .i64 x, bf]] .normal) (c :: cs)) := by
 rw [enter_at _ (show Try.prog.funcs[103]? = some Try.f103 by kernel_rfl) rfl]
 simp only [Try.f103]
 simp only [nrm, Nat.reduceAdd, Nat.reduceSub]
 refine Co.ctl hM rfl (fun _ => stepG_seq) ?_
 (refine Co.ctl hM rfl (fun _ => stepG_region) ?_; simp only [List.size_toArray, List.length_cons, List.length_nil, Nat.reduceAdd, Nat.zero_add, List.range, List.range.loop])
 (refine Co.goes rfl fun w hw => goes_oper_e rfl rfl (by decide) fun K E hK hE => ?_; go_simp; refine hK _ _ ⟨_, Chg.push hw hM _ _ _, ?_, ?_⟩; (rw [listed_nil (by unfold execOp; simp [go_sem])]; simp); clear hK hE hw K E; generalize w.heap.size = b; clear w; try simp only [nrm, Nat.reduceAdd, Nat.reduceSub])
 have hM1 := hM.cons b #[.int .i64 x, bf] 135 (0, 0) true
 (refine Co.goes rfl fun w hw => goes_oper_e rfl rfl (by decide) fun K E hK hE => ?_; go_simp; refine hK _ _ ⟨_, Chg.refl hw hM1, ?_, ?_⟩; (rw [listed_nil (by unfold execOp; simp [go_sem])]; simp); clear hK hE hw K E w; try simp only [nrm, Nat.reduceAdd, Nat.reduceSub])
 refine Co.ctl hM1 rfl (fun _ => stepG_region_end) ?_
 refine Co.ctl hM1 rfl (fun _ => stepG_seq) ?_
 (refine Co.ctl hM1 rfl (fun _ => stepG_region) ?_; simp only [List.size_toArray, List.length_cons, List.length_nil, Nat.reduceAdd, Nat.zero_add, List.range, List.range.loop])
 (refine Co.goes rfl fun w hw => goes_oper_e rfl rfl (by decide) fun K E hK hE => ?_; go_simp; refine hK _ _ ⟨_, Chg.refl hw hM1, ?_, ?_⟩; (rw [listed_nil (by unfold execOp; simp [go_sem])]; simp); clear hK hE hw K E w; try simp only [nrm, Nat.reduceAdd, Nat.reduceSub])
 (refine Co.goes rfl fun w hw => goes_oper_e rfl rfl (by decide) fun K E hK hE => ?_; have hc := (Holds.cell hw (b := b) (i := 1) (v := bf) (.head _) rfl); go_simp; refine hK _ _ ⟨_, Chg.refl hw hM1, ?_, ?_⟩; (intro e he; replace he := mem_listed he; unfold execOp at he; simp [go_sem, hc] at he; subst he; exact okRead (by first | assumption | simp [In, Has])); clear hc hK hE hw K E w; try simp only [nrm, Nat.reduceAdd, Nat.reduceSub])
 (refine Co.goes rfl fun w hw => goes_oper_e rfl rfl (by decide) fun K E hK hE => ?_; go_simp; refine hK _ _ ⟨_, Chg.refl hw hM1, ?_, ?_⟩; (rw [listed_nil (by unfold execOp; simp [go_sem])]; simp); clear hK hE hw K E w; try simp only [nrm, Nat.reduceAdd, Nat.reduceSub])
 (refine Co.goes rfl fun w hw => goes_oper_e rfl rfl (by decide) fun K E hK hE => ?_; have hc := (Holds.cell hw (b := b) (i := 0) (v := .int .i64 x) (.head _) rfl); go_simp; refine hK _ _ ⟨_, Chg.refl hw hM1, ?_, ?_⟩; (intro e he; replace he := mem_listed he; unfold execOp at he; simp [go_sem, hc] at he; subst he; exact okRead (by first | assumption | simp [In, Has])); clear hc hK hE hw K E w; try simp only [nrm, Nat.reduceAdd, Nat.reduceSub])
 cases off with
 | none =>
  obtain rfl := hb
  (refine Co.call hM1 (by decide) rfl rfl rfl rfl Try.func128 (by kernel_rfl) rfl ?_; try simp only [nrm, Nat.reduceAdd, Nat.reduceSub])
  refine co128 x hM1 ?_
  rw [Frame.finish_at]
  simp only [nrm, Nat.reduceAdd, Nat.reduceSub]
  (refine Co.goes rfl fun w hw => goes_oper_e rfl rfl (by decide) fun K E hK hE => ?_; go_simp; refine hK _ _ ⟨_, Chg.refl hw hM1, ?_, ?_⟩; (rw [listed_nil (by unfold execOp; simp [go_sem])]; simp); clear hK hE hw K E w; try simp only [nrm, Nat.reduceAdd, Nat.reduceSub])
  refine Co.ctl hM1 rfl (fun _ => stepG_region_end) ?_
  refine Co.ctl hM1 rfl (fun _ => stepG_ret') ?_
  (refine Co.ctl hM1 rfl (fun _ => stepG_leave (fn := Try.f103) rfl rfl (by kernel_rfl) (results_tmp rfl _ _ _) (events_results_tmp rfl _ _)) ?_; try simp only [nrm, Nat.reduceAdd, Nat.reduceSub])
  exact Co.up (h _ hM1 fun y hy => .tail _ hy)
 | some o =>
  obtain ⟨bs, sales, z, r, rfl, hs, ho⟩ := hb
  (refine Co.call hM1 (by decide) rfl rfl rfl rfl Try.func130 (by kernel_rfl) rfl ?_; try simp only [nrm, Nat.reduceAdd, Nat.reduceSub])
  refine co130 x o hM1 (.tail _ hs) ho ?_
  rw [Frame.finish_at]
  simp only [nrm, Nat.reduceAdd, Nat.reduceSub]
  (refine Co.goes rfl fun w hw => goes_oper_e rfl rfl (by decide) fun K E hK hE => ?_; go_simp; refine hK _ _ ⟨_, Chg.refl hw hM1, ?_, ?_⟩; (rw [listed_nil (by unfold execOp; simp [go_sem])]; simp); clear hK hE hw K E w; try simp only [nrm, Nat.reduceAdd, Nat.reduceSub])
  refine Co.ctl hM1 rfl (fun _ => stepG_region_end) ?_
  refine Co.ctl hM1 rfl (fun _ => stepG_ret') ?_
  (refine Co.ctl hM1 rfl (fun _ => stepG_leave (fn := Try.f103) rfl rfl (by kernel_rfl) (results_tmp rfl _ _ _) (events_results_tmp rfl _ _)) ?_; try simp only [nrm, Nat.reduceAdd, Nat.reduceSub])
  exact Co.up (h _ hM1 fun y hy => .tail _ hy)
end
noncomputable def ops118 : Array Oper :=
 #[⟨some 5, .load 151 (.tmp 0), 151, "bold.go:176", #[], none⟩,
  ⟨some 6, .load 3 (.tmp 1), 3, "bold.go:176", #[], none⟩,
  ⟨some 7, .load 137 (.tmp 2), 137, "bold.go:176", #[], none⟩,
  ⟨some 8, .load 135 (.tmp 3), 135, "bold.go:176", #[], none⟩,
  ⟨some 9, .call ⟨.value (.tmp 7), #[.tmp 8], #[135]⟩, 3, "bold.go:176", #[⟨2, .data⟩, ⟨3, .data⟩], none⟩,
  ⟨some 10, .build 156 #[(0, .tmp 6), (1, .tmp 9)], 156, "bold.go:176", #[⟨1, .data⟩, ⟨4, .data⟩], none⟩,
  ⟨none, .send (.tmp 5) (.tmp 10), 0, "bold.go:176", #[⟨0, .data⟩, ⟨5, .data⟩, ⟨4, .chain⟩], none⟩]
noncomputable def code118 : Code :=
 .region 1 #[⟨some 11, .load 152 (.tmp 4), 152, "bold.go:177", #[], none⟩,
  ⟨none, .send (.tmp 11) (.const (.bool true)), 0, "bold.go:177", #[⟨0, .data⟩], none⟩] false
theorem body118 : Try.f118.body = some (.seq (.region 0 ops118 true) code118) := by kernel_rfl
section
variable (F : Nat) (i v : Int) (nf bf : Value) (x : Int) (t0 t1 t2 t3 t4 : Value)
def tm118 (l0 l1 l2 l3 l4 l5 : Bool) : Act := { tmps := #[t0, t1, t2, t3, t4, if l0 then .chan (some F) else undef, if l1 then .int .i64 i else undef, if l2 then nf else undef, if l3 then .agg #[.int .i64 x, bf] else undef, if l4 then .int .i64 v else undef,
 if l5 then .agg #[.int .i64 i, .int .i64 v] else undef, undef], defers := [] }
end
def cnt (b : Bool) : Nat := if b then 1 else 0
theorem ready118 : ∀ l0 l1 l2 l3 l4 l5 : Bool, (l4 = true → l2 = true ∧ l3 = true) → (l5 = true → l1 = true ∧ l4 = true) → Region.ready .any ops118 #[l0, l1, l2, l3, l4, l5, false] ≠ [] := by
 decide +kernel
structure WF (F L : Nat) (i x : Int) (nf bf : Value) (off : Option Int) (bF bi bn ba bL : Nat) (M : Mem) : Prop where
 mc : MC M
 hF : ∃ z r, (bF, .cells #[.chan (some F)] 151 z, r) ∈ M
 hi : ∃ z r, (bi, .cells #[.int .i64 i] 3 z, r) ∈ M
 hn : ∃ z r, (bn, .cells #[nf] 137 z, r) ∈ M
 ha : ∃ z r, (ba, .cells #[.int .i64 x, bf] 135 z, r) ∈ M
 hL : ∃ z r, (bL, .cells #[.chan (some L)] 152 z, r) ∈ M
 bill : IsBill M bf off
section
variable {F L : Nat} {i x v : Int} {nf bf : Value} {off : Option Int} {bF bi bn ba bL : Nat} {M : Mem} {main : Bool} {St : Mem → Goroutine → Prop} {n : Nat} {b : Frame} {k : List Item} {cs : List Frame} {rest : List Nat} {l0 l1 l2 l3 l4 l5 : Bool}
abbrev ptr (b : Nat) : Value := .pointer (some ⟨b, 0, none⟩)
abbrev tmW (F : Nat) (i v x : Int) (nf bf : Value) (bF bi bn ba bL : Nat) := tm118 F i v nf bf x (ptr bF) (ptr bi) (ptr bn) (ptr ba) (ptr bL)
theorem op118_0 (hb : b.kind ≠ .early) (h : WF F L i x nf bf off bF bi bn ba bL M) (hk : Co Try.prog main St n M (G (b.at (tmW F i v x nf bf bF bi bn ba bL true l1 l2 l3 l4 l5) (.inRegion ops118 rest :: k)) cs)) :
  Co Try.prog main St (n + 1) M (G (b.at (tmW F i v x nf bf bF bi bn ba bL false l1 l2 l3 l4 l5) (.inRegion ops118 (0 :: rest) :: k)) cs) := by
 obtain ⟨z, r, hm⟩ := h.hF
 have hin : In M bF := ⟨r, _, hm⟩
 simp only [ops118, tmW, tm118, ptr]
 refine Co.goes rfl fun w hw => goes_oper_e rfl rfl hb fun K E hK hE => ?_
 have hc := Holds.cell hw (i := 0) (v := .chan (some F)) hm rfl
 go_simp
 refine hK _ _ ⟨_, Chg.refl hw h.mc, ?_, ?_⟩
 ·intro e he
  replace he := mem_listed he
  unfold execOp at he
  simp [go_sem, hc] at he
  subst he
  exact okRead hin
 exact hk
theorem op118_1 (hb : b.kind ≠ .early) (h : WF F L i x nf bf off bF bi bn ba bL M) (hk : Co Try.prog main St n M (G (b.at (tmW F i v x nf bf bF bi bn ba bL l0 true l2 l3 l4 l5) (.inRegion ops118 rest :: k)) cs)) :
  Co Try.prog main St (n + 1) M (G (b.at (tmW F i v x nf bf bF bi bn ba bL l0 false l2 l3 l4 l5) (.inRegion ops118 (1 :: rest) :: k)) cs) := by
 obtain ⟨z, r, hm⟩ := h.hi
 have hin : In M bi := ⟨r, _, hm⟩
 simp only [ops118, tmW, tm118, ptr]
 refine Co.goes rfl fun w hw => goes_oper_e rfl rfl hb fun K E hK hE => ?_
 have hc := Holds.cell hw (i := 0) (v := .int .i64 i) hm rfl
 go_simp
 refine hK _ _ ⟨_, Chg.refl hw h.mc, ?_, ?_⟩
 ·intro e he
  replace he := mem_listed he
  unfold execOp at he
  simp [go_sem, hc] at he
  subst he
  exact okRead hin
 exact hk
theorem op118_2 (hb : b.kind ≠ .early) (h : WF F L i x nf bf off bF bi bn ba bL M) (hk : Co Try.prog main St n M (G (b.at (tmW F i v x nf bf bF bi bn ba bL l0 l1 true l3 l4 l5) (.inRegion ops118 rest :: k)) cs)) :
  Co Try.prog main St (n + 1) M (G (b.at (tmW F i v x nf bf bF bi bn ba bL l0 l1 false l3 l4 l5) (.inRegion ops118 (2 :: rest) :: k)) cs) := by
 obtain ⟨z, r, hm⟩ := h.hn
 have hin : In M bn := ⟨r, _, hm⟩
 simp only [ops118, tmW, tm118, ptr]
 refine Co.goes rfl fun w hw => goes_oper_e rfl rfl hb fun K E hK hE => ?_
 have hc := Holds.cell hw (i := 0) (v := nf) hm rfl
 go_simp
 refine hK _ _ ⟨_, Chg.refl hw h.mc, ?_, ?_⟩
 ·intro e he
  replace he := mem_listed he
  unfold execOp at he
  simp [go_sem, hc] at he
  subst he
  exact okRead hin
 exact hk
theorem op118_3 (hb : b.kind ≠ .early) (h : WF F L i x nf bf off bF bi bn ba bL M) (hk : Co Try.prog main St n M (G (b.at (tmW F i v x nf bf bF bi bn ba bL l0 l1 l2 true l4 l5) (.inRegion ops118 rest :: k)) cs)) :
  Co Try.prog main St (n + 1) M (G (b.at (tmW F i v x nf bf bF bi bn ba bL l0 l1 l2 false l4 l5) (.inRegion ops118 (3 :: rest) :: k)) cs) := by
 obtain ⟨z, r, hm⟩ := h.ha
 have hin : In M ba := ⟨r, _, hm⟩
 simp only [ops118, tmW, tm118, ptr]
 refine Co.goes rfl fun w hw => goes_oper_e rfl rfl hb fun K E hK hE => ?_
 have hc := Holds.cell hw (i := 0) (v := .int .i64 x) hm rfl
 have hc2 := Holds.cell hw (i := 1) (v := bf) hm rfl
 go_simp
 refine hK _ _ ⟨_, Chg.refl hw h.mc, ?_, ?_⟩
 ·intro e he
  replace he := mem_listed he
  unfold execOp at he
  simp [go_sem, hc, hc2] at he
  rcases he with rfl | rfl <;> exact okRead hin
 exact hk
theorem op118_4 (hb : b.kind ≠ .early) (hM : MC M) {f : FuncId} {fn : Func} {cap : Array Value} (hnf : nf = .func (.func f) #[] cap) (hf : Try.prog.funcs[f]? = some fn) (hname : (fn.name == "runtime.NumGoroutine") = false) (hbo : fn.body.isNone = false)
  (h : Co Try.prog main St n M (G (Frame.enter Try.prog f (#[.agg #[.int .i64 x, bf]] ++ cap) .normal) (b.at (tmW F i v x nf bf bF bi bn ba bL l0 l1 true true false l5) (.inRegion ops118 (4 :: rest) :: k) :: cs))) :
  Co Try.prog main St (n + 1) M (G (b.at (tmW F i v x nf bf bF bi bn ba bL l0 l1 true true false l5) (.inRegion ops118 (4 :: rest) :: k)) cs) := by
 subst hnf
 refine Co.call hM hb rfl rfl rfl rfl hf hname hbo ?_
 have e : (#[Operand.tmp 8]).map (tmW F i v x (.func (.func f) #[] cap) bf bF bi bn ba bL l0 l1 true true false l5).eval = #[.agg #[.int .i64 x, bf]] := by simp [tmW, tm118, Act.eval]
 rw [e]
 exact h
theorem fin118_4 : (b.at (tmW F i v x nf bf bF bi bn ba bL l0 l1 true true false l5) (.inRegion ops118 (4 :: rest) :: k)).finish (.int .i64 v) = b.at (tmW F i v x nf bf bF bi bn ba bL l0 l1 true true true l5) (.inRegion ops118 rest :: k) := by
 rw [Frame.finish_at]; rfl
theorem op118_5 (hb : b.kind ≠ .early) (hM : MC M) (hk : Co Try.prog main St n M (G (b.at (tmW F i v x nf bf bF bi bn ba bL l0 true l2 l3 true true) (.inRegion ops118 rest :: k)) cs)) :
  Co Try.prog main St (n + 1) M (G (b.at (tmW F i v x nf bf bF bi bn ba bL l0 true l2 l3 true false) (.inRegion ops118 (5 :: rest) :: k)) cs) := by
 simp only [ops118, tmW, tm118, ptr, if_true]
 refine Co.goes rfl fun w hw => goes_oper_e rfl rfl hb fun K E hK hE => ?_
 go_simp
 refine hK _ _ ⟨_, Chg.refl hw hM, ?_, ?_⟩
 ·rw [listed_nil (by unfold execOp; simp [go_sem])]; simp
 exact hk
theorem draw118 (hb : b.kind ≠ .early) {f : FuncId} {fn : Func} {cap : Array Value} (hnf : nf = .func (.func f) #[] cap) (hf : Try.prog.funcs[f]? = some fn) (hname : (fn.name == "runtime.NumGoroutine") = false) (hbo : fn.body.isNone = false)
  (hnum : ∀ {n : Nat} {M : Mem} {c : Frame} {cs : List Frame}, WF F L i x nf bf off bF bi bn ba bL M → (∀ M', WF F L i x nf bf off bF bi bn ba bL M' → Co Try.prog main St n M' (G (c.finish (.int .i64 v)) cs)) →
   Co Try.prog main St (n + 50) M (G (Frame.enter Try.prog f (#[.agg #[.int .i64 x, bf]] ++ cap) .normal) (c :: cs)))
  (hsend : ∀ M, WF F L i x nf bf off bF bi bn ba bL M → St M (G (b.at (tmW F i v x nf bf bF bi bn ba bL true true true true true true) (.inRegion ops118 [6] :: k)) cs)) :
  ∀ (fuel t : Nat) (l0 l1 l2 l3 l4 l5 : Bool) (M : Mem), WF F L i x nf bf off bF bi bn ba bL M → (l4 = true → l2 = true ∧ l3 = true) → (l5 = true → l1 = true ∧ l4 = true) → fuel + (cnt l0 + cnt l1 + cnt l2 + cnt l3 + cnt l4 + cnt l5) = 7 →
   Co Try.prog main St (fuel * 51) M (G (b.at (tmW F i v x nf bf bF bi bn ba bL l0 l1 l2 l3 l4 l5) (.inRegion ops118 (Region.linearise.go .any ops118 fuel t #[l0, l1, l2, l3, l4, l5, false] []) :: k)) cs) := by
 intro fuel
 induction fuel with
 | zero =>
  intro t l0 l1 l2 l3 l4 l5 M _ _ _ h
  have hc : ∀ b, cnt b ≤ 1 := fun b => by cases b <;> simp [cnt]
  have := hc l0; have := hc l1; have := hc l2; have := hc l3; have := hc l4; have := hc l5
  omega
 | succ fuel ih =>
  intro t l0 l1 l2 l3 l4 l5 M hW h4 h5 hcnt
  simp only [Region.linearise.go]
  change Co Try.prog main St _ M (G (b.at _ (.inRegion ops118 (match (Region.ready .any ops118 #[l0, l1, l2, l3, l4, l5, false])[t % (Region.ready .any ops118 #[l0, l1, l2, l3, l4, l5, false]).length]? with
   | some i => Region.linearise.go .any ops118 fuel (t / (Region.ready .any ops118 #[l0, l1, l2, l3, l4, l5, false]).length) (#[l0, l1, l2, l3, l4, l5, false].setIfInBounds i true) [i]
   | none => [].reverse) :: k)) cs)
  generalize hR : Region.ready .any ops118 #[l0, l1, l2, l3, l4, l5, false] = R
  cases hi : R[t % R.length]? with
  | none =>
   exfalso
   have hne : R ≠ [] := hR ▸ ready118 l0 l1 l2 l3 l4 l5 h4 h5
   have hpos : 0 < R.length := List.length_pos_iff.2 hne
   have hlt : t % R.length < R.length := Nat.mod_lt _ hpos
   rw [List.getElem?_eq_getElem hlt] at hi
   cases hi
  | some j =>
   simp only []
   rw [linearise_go_acc, List.reverse_singleton, List.singleton_append]
   have hmem : j ∈ Region.ready .any ops118 #[l0, l1, l2, l3, l4, l5, false] := hR ▸ List.mem_of_getElem? hi
   obtain ⟨h0, o, ho, hdep⟩ := mem_ready.1 hmem
   have hj : j < 7 := (Array.getElem?_eq_some_iff.1 ho).1
   have hN : (fuel + 1) * 51 = fuel * 51 + 50 + 1 := by omega
   rw [hN]
   generalize t / R.length = t'
   have hup : ∀ {M' : Mem} {g : Goroutine}, Co Try.prog main St (fuel * 51) M' g → Co Try.prog main St (fuel * 51 + 50) M' g := fun h => Co.up h
   rcases j with _ | _ | _ | _ | _ | _ | _ | j
   ·obtain rfl : l0 = false := by simpa using h0
    exact op118_0 hb hW (hup (ih t' true l1 l2 l3 l4 l5 M hW h4 h5 (by simp [cnt] at hcnt ⊢; omega)))
   ·obtain rfl : l1 = false := by simpa using h0
    exact op118_1 hb hW (hup (ih t' l0 true l2 l3 l4 l5 M hW h4 (fun x => by have := h5 x; simp at this) (by simp [cnt] at hcnt ⊢; omega)))
   ·obtain rfl : l2 = false := by simpa using h0
    exact op118_2 hb hW (hup (ih t' l0 l1 true l3 l4 l5 M hW (fun x => by have := h4 x; simp at this) h5 (by simp [cnt] at hcnt ⊢; omega)))
   ·obtain rfl : l3 = false := by simpa using h0
    exact op118_3 hb hW (hup (ih t' l0 l1 l2 true l4 l5 M hW (fun x => by have := h4 x; simp at this) h5 (by simp [cnt] at hcnt ⊢; omega)))
   ·obtain rfl : l4 = false := by simpa using h0
    have eo : o = ⟨some 9, .call ⟨.value (.tmp 7), #[.tmp 8], #[135]⟩, 3, "bold.go:176", #[⟨2, .data⟩, ⟨3, .data⟩], none⟩ := (Option.some.inj ho).symm
    subst eo
    obtain rfl : l2 = true := by simpa using hdep { on := 2, ground := .data } (by simp) rfl
    obtain rfl : l3 = true := by simpa using hdep { on := 3, ground := .data } (by simp) rfl
    refine op118_4 hb hW.mc hnf hf hname hbo (hnum hW fun M' hW' => ?_)
    rw [fin118_4]
    exact ih t' l0 l1 true true true l5 M' hW' (fun _ => ⟨rfl, rfl⟩) (fun x => by have := h5 x; simp at this) (by simp [cnt] at hcnt ⊢; omega)
   ·obtain rfl : l5 = false := by simpa using h0
    have eo : o = ⟨some 10, .build 156 #[(0, .tmp 6), (1, .tmp 9)], 156, "bold.go:176", #[⟨1, .data⟩, ⟨4, .data⟩], none⟩ := (Option.some.inj ho).symm
    subst eo
    obtain rfl : l1 = true := by simpa using hdep { on := 1, ground := .data } (by simp) rfl
    obtain rfl : l4 = true := by simpa using hdep { on := 4, ground := .data } (by simp) rfl
    exact op118_5 hb hW.mc (hup (ih t' l0 true l2 l3 true true M hW h4 (fun _ => ⟨rfl, rfl⟩) (by simp [cnt] at hcnt ⊢; omega)))
   ·have eo : o = ⟨none, .send (.tmp 5) (.tmp 10), 0, "bold.go:176", #[⟨0, .data⟩, ⟨5, .data⟩, ⟨4, .chain⟩], none⟩ := (Option.some.inj ho).symm
    subst eo
    obtain rfl : l0 = true := by simpa using hdep { on := 0, ground := .data } (by simp) rfl
    obtain rfl : l5 = true := by simpa using hdep { on := 5, ground := .data } (by simp) rfl
    obtain ⟨rfl, rfl⟩ := h5 rfl
    obtain ⟨rfl, rfl⟩ := h4 rfl
    obtain rfl : fuel = 0 := by simp [cnt] at hcnt; omega
    exact Co.stop (hsend M hW) _
   ·omega
end
end Go.Ov
namespace Go.Ov
open Go.Conc
open Go.ConcN (sumTo upd sumTo_upd upd_ne upd_same fork_knows)
structure Uni (F L : Nat) (act : Nat → Prop) (t : Trace) (w : World) (mem : Nat → Mem) : Prop where
 clean : Clean' t
 holds : ∀ i, Holds (mem i) w
 apart : ∀ i j, i ≠ j → Apart2 (mem i) (mem j)
 chan : ∀ i, ¬ In (mem i) F ∧ ¬ In (mem i) L
 km : ∀ i, KM t i (mem i)
 kn : ∀ i, act i → KN t i w.heap.size
 deaf : ∀ i, act i → Deaf t i = 0
 idle : ∀ i, ¬ act i → mem i = []
theorem Holds.lt {M : Mem} {w : World} (h : Holds M w) {b : Nat} (hb : In M b) : b < w.heap.size := by
 obtain ⟨r, o, hm⟩ := hb
 exact lt_of_some (h b o r hm)
section
variable {F L : Nat} {act : Nat → Prop} {t u : Trace} {w w' : World} {mem : Nat → Mem} {i : Nat} {M' : Mem}
theorem Uni.local (h : Uni F L act t w mem) (ha : act i) (hF : F < w.heap.size) (hL : L < w.heap.size) (hc : Chg (mem i) w w' M') (hu : ∀ op ∈ u, op.g = i ∧ OkAct M' op.act) : Uni F L act (t ++ u) w' (upd mem i M') := by
 obtain ⟨h1, h2, h3⟩ := own_ops h.clean (h.km i) (h.kn i ha) (h.holds i) hc hu
 have hap : ∀ j, j ≠ i → Apart2 M' (mem j) := by
  intro j hj
  have hij := h.apart i j (Ne.symm hj)
  refine ⟨fun b hb hin => ?_, fun b hb hin => ?_⟩
  ·rcases hc.from' b true hb with x | ⟨x, _⟩ | x
   ·exact hij.1 b x hin
   ·cases x
   ·exact absurd ((h.holds j).lt hin) (by omega)
  ·obtain ⟨r, hr⟩ := hin
   rcases hc.from' b r hr with x | ⟨_, x⟩ | x
   ·exact hij.2 b hb ⟨r, x⟩
   ·exact hij.2 b hb ⟨true, x⟩
   ·exact absurd ((h.holds j).lt ⟨true, hb⟩) (by omega)
 have hlt : ∀ b r, Has M' b r → b < w'.heap.size := fun b r hb => hc.holds.lt ⟨r, hb⟩
 refine ⟨h1, fun j => ?_, fun j k hjk => ?_, fun j => ?_, fun j => ?_, fun j hj => ?_, fun j hj => ?_, fun j hj => ?_⟩
 ·by_cases hji : j = i
  ·subst hji; rw [upd_same]; exact hc.holds
  ·rw [upd_ne _ _ hji]
   intro b o r hb
   have hlt' := lt_of_some (h.holds j b o r hb)
   rw [hc.other b hlt' fun hx => (h.apart i j (Ne.symm hji)).1 b hx ⟨r, o, hb⟩]
   exact h.holds j b o r hb
 ·by_cases hji : j = i
  ·subst hji
   rw [upd_same, upd_ne _ _ (Ne.symm hjk)]
   exact hap k (Ne.symm hjk)
  ·rw [upd_ne _ _ hji]
   by_cases hki : k = i
   ·subst hki; rw [upd_same]; exact (hap j hji).symm
   ·rw [upd_ne _ _ hki]; exact h.apart j k hjk
 ·by_cases hji : j = i
  ·subst hji
   rw [upd_same]
   refine ⟨fun ⟨r, hr⟩ => ?_, fun ⟨r, hr⟩ => ?_⟩
   ·rcases hc.from' _ r hr with x | ⟨_, x⟩ | x
    ·exact (h.chan j).1 ⟨r, x⟩
    ·exact (h.chan j).1 ⟨true, x⟩
    ·omega
   ·rcases hc.from' _ r hr with x | ⟨_, x⟩ | x
    ·exact (h.chan j).2 ⟨r, x⟩
    ·exact (h.chan j).2 ⟨true, x⟩
    ·omega
  ·rw [upd_ne _ _ hji]; exact h.chan j
 ·by_cases hji : j = i
  ·subst hji; rw [upd_same]; exact h2
  ·rw [upd_ne _ _ hji]
   by_cases haj : act j
   ·exact (other_ops (h.km j) (h.kn j haj) hc.size (hap j hji) hlt fun op hop => (hu op hop).2).1
   ·rw [h.idle j haj]; rintro b r ⟨o, ho⟩; simp at ho
 ·by_cases hji : j = i
  ·subst hji; exact h3
  ·exact (other_ops (h.km j) (h.kn j hj) hc.size (hap j hji) hlt fun op hop => (hu op hop).2).2
 ·rw [Deaf_keep' t j u fun op hop => ⟨(hu op hop).2.1, (hu op hop).2.2.1⟩]; exact h.deaf j hj
 ·have hji : j ≠ i := fun e => hj (e ▸ ha)
  rw [upd_ne _ _ hji]; exact h.idle j hj
theorem Uni.comm (h : Uni F L act t w mem) (hs : w'.heap.size = w.heap.size) (hh : ∀ b, b ≠ F → b ≠ L → w'.heap[b]? = w.heap[b]?) (hu : ∀ op ∈ u, op.act.touch? = none ∧ op.act ≠ .mark .disable ∧ op.act ≠ .mark .enable) : Uni F L act (t ++ u) w' mem :=
 ⟨quiet_clean h.clean fun op hop => (hu op hop).1, fun i b o r hb => by
  rw [hh b (fun e => (h.chan i).1 ⟨r, o, e ▸ hb⟩) fun e => (h.chan i).2 ⟨r, o, e ▸ hb⟩]
  exact h.holds i b o r hb, h.apart, h.chan, fun i => (h.km i).quiet fun op hop => (hu op hop).1, fun i hi => by rw [hs]; exact (h.kn i hi).quiet fun op hop => (hu op hop).1,
  fun i hi => by rw [Deaf_keep' t i u fun op hop => (hu op hop).2]; exact h.deaf i hi, h.idle⟩
theorem Uni.other (h : Uni F L act t w mem) {j : Nat} (hj : ¬ act j) (hu : ∀ op ∈ u, op.g = j ∧ op.act.touch? = Option.none) : Uni F L act (t ++ u) w mem :=
 ⟨quiet_clean h.clean fun op hop => (hu op hop).2, h.holds, h.apart, h.chan, fun i => (h.km i).quiet fun op hop => (hu op hop).2, fun i hi => (h.kn i hi).quiet fun op hop => (hu op hop).2,
  fun i hi => by rw [Deaf_other t (g' := j) (fun e => hj (e ▸ hi)) u fun op hop => (hu op hop).1]; exact h.deaf i hi, h.idle⟩
theorem Uni.drew (h : Uni F L act t w mem) (d : Nat) : Uni F L act t (w.at d) mem := ⟨h.clean, h.holds, h.apart, h.chan, h.km, h.kn, h.deaf, h.idle⟩
theorem Uni.drop (h : Uni F L act t w mem) (i : Nat) : Uni F L act t w (upd mem i []) := by
 have sub : ∀ j b r, Has (upd mem i [] j) b r → Has (mem j) b r := by
  intro j b r hb
  by_cases hji : j = i
  ·subst hji; rw [upd_same] at hb; obtain ⟨o, ho⟩ := hb; simp at ho
  ·rw [upd_ne _ _ hji] at hb; exact hb
 refine ⟨h.clean, fun j => ?_, fun j k hjk => ⟨fun b hb ⟨r, hr⟩ => (h.apart j k hjk).1 b (sub _ _ _ hb) ⟨r, sub _ _ _ hr⟩, fun b hb ⟨r, hr⟩ => (h.apart j k hjk).2 b (sub _ _ _ hb) ⟨r, sub _ _ _ hr⟩⟩,
  fun j => ⟨fun ⟨r, hr⟩ => (h.chan j).1 ⟨r, sub _ _ _ hr⟩, fun ⟨r, hr⟩ => (h.chan j).2 ⟨r, sub _ _ _ hr⟩⟩, fun j b r hb => h.km j b r (sub _ _ _ hb), h.kn, h.deaf, fun j hj => ?_⟩
 ·by_cases hji : j = i
  ·subst hji; rw [upd_same]; intro b o r hb; simp at hb
  ·rw [upd_ne _ _ hji]; exact h.holds j
 ·by_cases hji : j = i
  ·subst hji; rw [upd_same]
  ·rw [upd_ne _ _ hji]; exact h.idle j hj
theorem Uni.fewer (h : Uni F L act t w mem) {act' : Nat → Prop} (hs : ∀ j, act' j → act j) (hi : ∀ j, ¬ act' j → mem j = []) : Uni F L act' t w mem :=
 ⟨h.clean, h.holds, h.apart, h.chan, h.km, fun j hj => h.kn j (hs j hj), fun j hj => h.deaf j (hs j hj), hi⟩
structure Split (M Mc M' : Mem) : Prop where
 own : ∀ b, Has Mc b true → Has M b true ∧ ¬ In M' b
 sh : ∀ b, Has Mc b false → In M b ∧ ¬ Has M' b true
 kept : ∀ b r, Has M' b r → Has M b r ∨ (r = false ∧ Has M b true)
 holds : ∀ w, Holds M w → Holds Mc w ∧ Holds M' w
theorem Uni.spawn (h : Uni F L act t w mem) (h0 : act 0) {c : Nat} (hc : ¬ act c) (hd : Deaf t c = 0) {Mc : Mem} (hs : Split (mem 0) Mc M') {x y : MemOp} (hx : x.g = 0 ∧ x.act = .go c) (hy : y.g = c ∧ y.act = .start) :
  Uni F L (fun i => act i ∨ i = c) (t ++ #[x, y]) w (upd (upd mem 0 M') c Mc) := by
 have hq : ∀ op ∈ #[x, y], op.act.touch? = none := by
  intro op hop
  simp only [List.mem_toArray, List.mem_cons, List.not_mem_nil, or_false] at hop
  rcases hop with rfl | rfl
  ·rw [hx.2]; rfl
  ·rw [hy.2]; rfl
 have hq2 : ∀ op ∈ #[x, y], op.act ≠ .mark .disable ∧ op.act ≠ .mark .enable := by
  intro op hop
  simp only [List.mem_toArray, List.mem_cons, List.not_mem_nil, or_false] at hop
  rcases hop with rfl | rfl
  ·rw [hx.2]; simp
  ·rw [hy.2]; simp
 have hc0 : c ≠ 0 := fun e => hc (e ▸ h0)
 have fk : ∀ {k}, Knows t 0 k → Knows (t ++ #[x, y]) c k := fun hk => fork_knows hx hy (h.deaf 0 h0) hd hk
 have e0 : upd (upd mem 0 M') c Mc 0 = M' := by rw [upd_ne _ _ (Ne.symm hc0), upd_same]
 have ec : upd (upd mem 0 M') c Mc c = Mc := upd_same _ _ _
 have eo : ∀ j, j ≠ 0 → j ≠ c → upd (upd mem 0 M') c Mc j = mem j := fun j h1 h2 => by rw [upd_ne _ _ h2, upd_ne _ _ h1]
 have in' : ∀ b, In M' b → In (mem 0) b := fun b ⟨r, hr⟩ => by rcases hs.kept b r hr with x | ⟨_, x⟩; exact ⟨r, x⟩; exact ⟨true, x⟩
 have own' : ∀ b, Has M' b true → Has (mem 0) b true := fun b hb => by rcases hs.kept b true hb with x | ⟨x, _⟩; exact x; cases x
 have inc : ∀ b, In Mc b → In (mem 0) b := fun b ⟨r, hr⟩ => by
  cases r with
  | true => exact ⟨true, (hs.own b hr).1⟩
  | false => exact (hs.sh b hr).1
 have h0c : Apart2 M' Mc := ⟨fun b hb ⟨r, hr⟩ => by
   cases r with
   | true => exact (hs.own b hr).2 ⟨true, hb⟩
   | false => exact (hs.sh b hr).2 hb, fun b hb hin => (hs.own b hb).2 hin⟩
 have h0o : ∀ j, j ≠ 0 → Apart2 M' (mem j) := fun j hj => ⟨fun b hb hin => (h.apart 0 j (Ne.symm hj)).1 b (own' b hb) hin, fun b hb hin => (h.apart 0 j (Ne.symm hj)).2 b hb (in' b hin)⟩
 have hco : ∀ j, j ≠ 0 → Apart2 Mc (mem j) := fun j hj => ⟨fun b hb hin => (h.apart 0 j (Ne.symm hj)).1 b (hs.own b hb).1 hin, fun b hb hin => (h.apart 0 j (Ne.symm hj)).2 b hb (inc b hin)⟩
 refine ⟨quiet_clean h.clean hq, fun j => ?_, fun j k hjk => ?_, fun j => ?_, fun j => ?_, fun j hj => ?_, fun j hj => ?_, fun j hj => ?_⟩
 ·by_cases h1 : j = c
  ·subst h1; rw [ec]; exact (hs.holds w (h.holds 0)).1
  ·by_cases h2 : j = 0
   ·subst h2; rw [e0]; exact (hs.holds w (h.holds 0)).2
   ·rw [eo j h2 h1]; exact h.holds j
 ·by_cases h1 : j = c
  ·subst h1
   rw [ec]
   by_cases h2 : k = 0
   ·subst h2; rw [e0]; exact h0c.symm
   ·rw [eo k h2 (Ne.symm hjk)]; exact hco k h2
  ·by_cases h2 : j = 0
   ·subst h2
    rw [e0]
    by_cases h3 : k = c
    ·subst h3; rw [ec]; exact h0c
    ·rw [eo k (Ne.symm hjk) h3]; exact h0o k (Ne.symm hjk)
   ·rw [eo j h2 h1]
    by_cases h3 : k = c
    ·subst h3; rw [ec]; exact (hco j h2).symm
    ·by_cases h4 : k = 0
     ·subst h4; rw [e0]; exact (h0o j h2).symm
     ·rw [eo k h4 h3]; exact h.apart j k hjk
 ·by_cases h1 : j = c
  ·subst h1; rw [ec]; exact ⟨fun hx => (h.chan 0).1 (inc _ hx), fun hx => (h.chan 0).2 (inc _ hx)⟩
  ·by_cases h2 : j = 0
   ·subst h2; rw [e0]; exact ⟨fun hx => (h.chan 0).1 (in' _ hx), fun hx => (h.chan 0).2 (in' _ hx)⟩
   ·rw [eo j h2 h1]; exact h.chan j
 ·by_cases h1 : j = c
  ·subst h1
   rw [ec]
   intro b r hb i a ha hab hr
   refine fk ?_
   cases r with
   | true => exact h.km 0 b true (hs.own b hb).1 i a (quiet_touch hq ha) hab (.inl rfl)
   | false =>
    obtain ⟨r', hr'⟩ := (hs.sh b hb).1
    exact h.km 0 b r' hr' i a (quiet_touch hq ha) hab (hr.elim (fun x => by cases x) .inr)
  ·by_cases h2 : j = 0
   ·subst h2
    rw [e0]
    intro b r hb i a ha hab hr
    rcases hs.kept b r hb with x | ⟨rfl, x⟩
    ·exact (h.km 0 b r x i a (quiet_touch hq ha) hab hr).app _
    ·exact (h.km 0 b true x i a (quiet_touch hq ha) hab (.inl rfl)).app _
   ·rw [eo j h2 h1]; exact (h.km j).quiet hq
 ·by_cases h1 : j = c
  ·subst h1
   exact fun i a b ha hab hle => fk (h.kn 0 h0 i a b (quiet_touch hq ha) hab hle)
  ·exact (h.kn j (hj.resolve_right h1)).quiet hq
 ·rw [Deaf_keep' t j _ hq2]
  by_cases h1 : j = c
  ·subst h1; exact hd
  ·exact h.deaf j (hj.resolve_right h1)
 ·have h1 : j ≠ c := fun e => hj (.inr e)
  have h2 : j ≠ 0 := fun e => hj (.inl (e ▸ h0))
  rw [eo j h2 h1]; exact h.idle j fun x => hj (.inl x)
end
end Go.Ov
namespace Go.Ov
open Go.Conc
open Go.ConcN (sumTo upd sumTo_upd upd_ne upd_same sumTo_congr sumTo_upd_out le_sumTo sumTo_le)
def zS : Value := .tuple #[]
structure Ph where
 P : Program
 N0 : Nat
 n : Nat
 F : Nat
 L : Nat
 val : Nat → Value
 zF : Value
 zL : Value
 Exit : Mem → Goroutine → Prop
 pos : 0 < N0
 apart : F ≠ L
section
variable (ph : Ph)
abbrev Ph.sendF (j : Nat) : CommCase := scase ph.F (ph.val j) zS
abbrev Ph.sendL : CommCase := scase ph.L (.bool true) zS
abbrev Ph.recvL : CommCase := rcase ph.L ph.zL
abbrev Ph.recvF : CommCase := rcase ph.F ph.zF
def Ph.BStop (M : Mem) (g : Goroutine) : Prop := AtC ph.P false M g ph.sendL .send ∧ ∃ q, QuitsD ph.P q 0 (fin ph.P g ph.sendL .send undef false)
def Ph.AStop (j : Nat) (M : Mem) (g : Goroutine) : Prop := AtC ph.P false M g (ph.sendF j) .send ∧ ∃ k, Co ph.P false ph.BStop k M (fin ph.P g (ph.sendF j) .send undef false)
def Ph.CStop (ph : Ph) : Nat → Mem → Goroutine → Prop
 | 0, M, g => g.status = .running ∧ ∀ w, Holds M w → ∀ s r, w.heap[ph.F]? = some (.chan 0 #[] false s r false) →
   ∃ g', stepG ph.P false g w = .go g' (w.setChan ph.F 0 #[] true s r false) #[⟨.obj ph.F, false, true⟩, ⟨.obj ph.F, true, true⟩] ∧ mayWake ph.P g = true ∧ ∃ q, QuitsD ph.P q 0 g'
 | r + 1, M, g => AtC ph.P false M g ph.recvL (.recv false) ∧ ∃ k, Co ph.P false (ph.CStop r) k M (fin ph.P g ph.recvL (.recv false) (.bool true) true)
def Ph.MStop (ph : Ph) : Nat → List Nat → Mem → Goroutine → Prop
 | 0, got, M, g => AtC ph.P true M g ph.recvF (.recv true) ∧ ph.Exit M (fin ph.P g ph.recvF (.recv true) ph.zF false)
 | r + 1, got, M, g => AtC ph.P true M g ph.recvF (.recv true) ∧ ∀ j, j < ph.n → j ∉ got → ∃ k, Co ph.P true (ph.MStop r (j :: got)) k M (fin ph.P g ph.recvF (.recv true) (ph.val j) true)
def Ph.SStop (ph : Ph) : Nat → Mem → Goroutine → Prop
 | 0, M, g => g.status = .running ∧ ∀ w, Holds M w → ∃ g' child, stepG ph.P true g w = .spawn g' child w ∧
   ∃ Mc M', Split M Mc M' ∧ (∃ k, Co ph.P false (ph.CStop ph.n) k Mc child) ∧ ∃ k, Co ph.P true (ph.MStop ph.n []) k M' g'
 | s + 1, M, g => g.status = .running ∧ ∀ w, Holds M w → ∃ g' child, stepG ph.P true g w = .spawn g' child w ∧
   ∃ Mc M', Split M Mc M' ∧ (∃ k, Co ph.P false (ph.AStop (ph.n - (s + 1))) k Mc child) ∧ ∃ k, Co ph.P true (ph.SStop s) k M' g'
inductive Cls
 | lv | wA | wP | wB | cR (r : Nat) | cP (r : Nat) | mS (s : Nat) | mR (r : Nat) (got : List Nat) | mP (r : Nat) (got : List Nat)
def Ph.RoleOk (t : Trace) (i : Nat) : Cls → Nat → Mem → Goroutine → Prop
 | .lv, q, M, g => QuitsD ph.P q (Deaf t i) g
 | .wA, k, M, g => Co ph.P false (ph.AStop (i - ph.N0)) k M g
 | .wP, k, M, g => ∃ g1, g = parked (bareG g1) #[ph.sendF (i - ph.N0)] .send ∧ ph.AStop (i - ph.N0) M g1
 | .wB, k, M, g => Co ph.P false ph.BStop k M g
 | .cR r, k, M, g => Co ph.P false (ph.CStop r) k M g
 | .cP r, k, M, g => ∃ g1, g = parked (bareG g1) #[ph.recvL] (.recv false) ∧ ph.CStop (r + 1) M g1
 | .mS s, k, M, g => Co ph.P true (ph.SStop s) k M g
 | .mR r got, k, M, g => Co ph.P true (ph.MStop r got) k M g
 | .mP r got, k, M, g => ∃ g1, g = parked (bareG g1) #[ph.recvF] (.recv true) ∧ ph.MStop r got M g1
def lvn : Cls → Nat
 | .lv => 1
 | _ => 0
def undone : Cls → Nat
 | .wB | .lv => 0
 | _ => 1
def ww : Cls → Nat
 | .lv => 0
 | .wB => 1
 | _ => 2
def cw : Cls → Nat
 | .cR r => r + 1
 | .cP r => r + 2
 | _ => 0
def Ph.mw : Cls → Nat
 | .mS s => s + ph.n + 2
 | .mR r _ => r + 1
 | .mP r _ => r + 1
 | _ => 0
def mloc : Cls → Nat → Nat
 | .lv, q => q
 | .wA, k | .wB, k | .cR _, k | .mS _, k | .mR _ _, k => k + 1
 | _, _ => 0
def Ph.outer (c : Nat → Cls) : Nat := ph.mw (c 0) + sumTo ph.n (fun j => ww (c (ph.N0 + j))) + cw (c (ph.N0 + ph.n))
structure Ph.Proto (sz : Nat) (c : Nat → Cls) (cl : Bool) (sL rL bs : Nat) : Prop where
 main : (∃ s, c 0 = .mS s ∧ s ≤ ph.n ∧ sz = ph.N0 + (ph.n - s)) ∨ ((∃ r got, c 0 = .mR r got) ∨ ((∃ r got, c 0 = .mP r got) ∧ cl = false)) ∧ sz = ph.N0 + ph.n + 1
 old : ∀ i, 0 < i → i < ph.N0 → c i = .lv
 work : ∀ j, j < ph.n → c (ph.N0 + j) = .wA ∨ c (ph.N0 + j) = .wP ∨ c (ph.N0 + j) = .wB ∨ c (ph.N0 + j) = .lv
 uns : ∀ j, j < ph.n → sz ≤ ph.N0 + j → c (ph.N0 + j) = .wA
 clos : (∃ r, c (ph.N0 + ph.n) = .cR r ∧ rL + r = ph.n ∧ cl = false) ∨ (∃ r, c (ph.N0 + ph.n) = .cP r ∧ rL + r + 1 = ph.n ∧ bs = 0 ∧ cl = false) ∨ (c (ph.N0 + ph.n) = .lv ∧ rL = ph.n ∧ cl = true)
 unc : sz ≤ ph.N0 + ph.n → c (ph.N0 + ph.n) = .cR ph.n
 got : ∀ r got, (c 0 = .mR r got ∨ c 0 = .mP r got) → r = sumTo ph.n (fun j => undone (c (ph.N0 + j))) ∧ ∀ j, j < ph.n → (j ∈ got ↔ undone (c (ph.N0 + j)) = 0)
 start : ∀ s, c 0 = .mS s → ∀ j, j < ph.n → undone (c (ph.N0 + j)) = 1
 bsz : bs + rL = sL
 cnt : sL = sumTo ph.n (fun j => lvn (c (ph.N0 + j)))
 park : ∀ r got, c 0 = .mP r got → ∀ j, j < ph.n → c (ph.N0 + j) ≠ .wP
structure Ph.Chan (w : World) (cl : Bool) (sF sL rL : Nat) (buf : Array Value) : Prop where
 F : w.heap[ph.F]? = some (.chan 0 #[] cl sF sF false)
 L : w.heap[ph.L]? = some (.chan ph.n buf false sL rL false)
 buf : ∀ x ∈ buf, x = .bool true
structure Ph.Tr (t : Trace) (sz : Nat) (c : Nat → Cls) (cl : Bool) (sL rL : Nat) : Prop where
 seen : ∀ i a, touchAt t i = some a → a.loc.isMemory = true → Knows t 0 i ∨ ∃ g, t.g? i = some g ∧ ph.N0 ≤ g ∧ g < sz
 tW : ∀ j, j < ph.n → c (ph.N0 + j) = .lv → ∃ p k op, t[p]? = some op ∧ op.act = .send ph.L k ∧ k < sL ∧ t.heard p ∧ ∀ i a, touchAt t i = some a → t.g? i = some (ph.N0 + j) → Knows t 0 i ∨ Before t i p
 tC : ∀ k, k < rL → ∃ q z, t[q]? = some z ∧ z.g = ph.N0 + ph.n ∧ z.act = .recvDone ph.L k ∧ t.heard q
 tX : cl = true → ∃ pc z, t[pc]? = some z ∧ z.act = .close ph.F ∧ t.heard pc ∧ ∀ i a, touchAt t i = some a → a.loc.isMemory = true → Knows t 0 i ∨ Before t i pc
 tF0 : sz ≤ ph.N0 + ph.n → ∀ i a, touchAt t i = some a → a.loc.at ph.F → Knows t 0 i
 tF1 : ph.N0 + ph.n < sz → ∀ i a, touchAt t i = some a → a.loc.at ph.F → Knows t (ph.N0 + ph.n) i
structure Ph.Hp (w0 : World) (M0 : Mem) (w : World) (mem : Nat → Mem) : Prop where
 os : w.os = w0.os
 output : w.output = w0.output
 size : w0.heap.size ≤ w.heap.size
 keep : ∀ b, b < w0.heap.size → b ≠ ph.F → b ≠ ph.L → ¬ Has M0 b true → w.heap[b]? = w0.heap[b]?
 fresh : ∀ b, w0.heap.size ≤ b → ∀ o, w.heap[b]? = some o → ∃ c e z, o = .cells c e z
 mine : ∀ b, Has M0 b true → ∀ o, w.heap[b]? = some o → ∃ c e z, o = .cells c e z
 own : ∀ i b, Has (mem i) b true → Has M0 b true ∨ w0.heap.size ≤ b
 lt : ph.F < w0.heap.size ∧ ph.L < w0.heap.size
 nin : ¬ Has M0 ph.F true ∧ ¬ Has M0 ph.L true
def Ph.Act (sz : Nat) (c : Nat → Cls) (i : Nat) : Prop := i = 0 ∨ (ph.N0 ≤ i ∧ i < sz ∧ c i ≠ .lv)
structure Ph.Inv (w0 : World) (M0 : Mem) (gs : Array Goroutine) (w : World) (t : Trace) (c : Nat → Cls) (k : Nat → Nat) (mem : Nat → Mem) (cl : Bool) (sF sL rL : Nat) (buf : Array Value) : Prop where
 uni : Uni ph.F ph.L (ph.Act gs.size c) t w mem
 ok : ∀ i g, gs[i]? = some g → ph.RoleOk t i (c i) (k i) (mem i) g
 above : ∀ j, gs.size ≤ j → Deaf t j = 0
 proto : ph.Proto gs.size c cl sL rL buf.size
 chan : ph.Chan w cl sF sL rL buf
 tr : ph.Tr t gs.size c cl sL rL
 hp : ph.Hp w0 M0 w mem
end
theorem sumTo_one : ∀ n, sumTo n (fun _ => 1) = n
 | 0 => rfl
 | n + 1 => by rw [sumTo, sumTo_one n]
theorem sumTo_all {f : Nat → Nat} {n : Nat} (h : ∀ j, j < n → f j = 1) : sumTo n f = n := by rw [sumTo_congr (g := fun _ => 1) h, sumTo_one]
theorem sumTo_lt' : ∀ {n : Nat} {f : Nat → Nat}, (∀ j, j < n → f j ≤ 1) → ∀ {j : Nat}, j < n → f j = 0 → sumTo n f < n
 | 0, f, _, j, hj, _ => by omega
 | n + 1, f, h, j, hj, h0 => by
  rw [sumTo]
  rcases Nat.lt_or_ge j n with hlt | hge
  ·have := sumTo_lt' (n := n) (f := f) (fun j hj => h j (by omega)) hlt h0
   have := h n (by omega)
   omega
  ·obtain rfl : j = n := by omega
   have := sumTo_le (f := f) (c := 1) (j := j) fun i hi => h i (by omega)
   omega
theorem lvn_le (c : Cls) : lvn c ≤ 1 := by cases c <;> simp [lvn]
theorem lvn_one {c : Cls} (h : lvn c = 1) : c = .lv := by cases c <;> simp_all [lvn]
theorem some_not_lv {n : Nat} {f : Nat → Cls} (h : sumTo n (fun j => lvn (f j)) < n) : ∃ j, j < n ∧ f j ≠ .lv := by
 apply Classical.byContradiction
 intro hc
 have : ∀ j, j < n → lvn (f j) = 1 := fun j hj => by
  have : f j = .lv := Classical.byContradiction fun hx => hc ⟨j, hj, hx⟩
  rw [this]; rfl
 rw [sumTo_all this] at h
 omega
theorem all_lv {n : Nat} {f : Nat → Cls} (h : n ≤ sumTo n (fun j => lvn (f j))) {j : Nat} (hj : j < n) : f j = .lv := by
 apply lvn_one
 rcases Nat.eq_zero_or_pos (lvn (f j)) with h0 | h1
 ·have := sumTo_lt' (f := fun j => lvn (f j)) (fun j _ => lvn_le (f j)) hj h0
  omega
 ·have := lvn_le (f j); omega
theorem sum_turn {c : Nat → Cls} {N0 n j : Nat} {x : Cls} (φ : Cls → Nat) (hj : j < n) : sumTo n (fun i => φ (upd c (N0 + j) x (N0 + i))) + φ (c (N0 + j)) = sumTo n (fun i => φ (c (N0 + i))) + φ x := by
 have := sumTo_upd (fun i => c (N0 + i)) x φ hj
 rw [sumTo_congr (g := fun a => φ (upd (fun i => c (N0 + i)) j x a)) fun i _ => ?_]
 ·exact this
 ·by_cases h : i = j
  ·subst h; rw [upd_same, upd_same]
  ·rw [upd_ne _ _ h, upd_ne _ _ (by omega)]
theorem co_running {P : Program} {main : Bool} {St : Mem → Goroutine → Prop} (hs : ∀ M g, St M g → g.status = .running) : ∀ {n : Nat} {M : Mem} {g : Goroutine}, Co P main St n M g → g.status = .running
 | 0, _, _, h => hs _ _ h
 | _ + 1, _, _, h => h.elim (hs _ _) (·.1)
section
variable {ph : Ph} {t u : Trace} {i : Nat} {k : Nat} {M : Mem} {g : Goroutine}
theorem bStop_run (M : Mem) (g : Goroutine) (h : ph.BStop M g) : g.status = .running := h.1.1
theorem aStop_run (j : Nat) (M : Mem) (g : Goroutine) (h : ph.AStop j M g) : g.status = .running := h.1.1
theorem cStop_run : ∀ (r : Nat) (M : Mem) (g : Goroutine), ph.CStop r M g → g.status = .running
 | 0, _, _, h => h.1
 | _ + 1, _, _, h => h.1.1
theorem mStop_at (r : Nat) (got : List Nat) (M : Mem) (g : Goroutine) (h : ph.MStop r got M g) : AtC ph.P true M g ph.recvF (.recv true) := by
 cases r <;> exact h.1
theorem mStop_run (r : Nat) (got : List Nat) (M : Mem) (g : Goroutine) (h : ph.MStop r got M g) : g.status = .running := (mStop_at r got M g h).1
theorem sStop_run : ∀ (s : Nat) (M : Mem) (g : Goroutine), ph.SStop s M g → g.status = .running
 | 0, _, _, h => h.1
 | _ + 1, _, _, h => h.1
def Cls.waits : Cls → Bool
 | .wP | .cP _ | .mP _ _ => true
 | _ => false
theorem role_status {c : Cls} (h : ph.RoleOk t i c k M g) (hc : c.waits = false) : g.status = .running ∨ (c = .lv ∧ g.status = .finished) := by
 cases c with
 | lv => exact (QuitsD.status h).imp id fun x => ⟨rfl, x⟩
 | wA => exact .inl (co_running (aStop_run _) h)
 | wB => exact .inl (co_running bStop_run h)
 | cR r => exact .inl (co_running (cStop_run r) h)
 | mS s => exact .inl (co_running (sStop_run s) h)
 | mR r got => exact .inl (co_running (mStop_run r got) h)
 | _ => cases hc
theorem role_status' {c : Cls} (h : ph.RoleOk t i c k M g) (hc : c.waits = false) : g.status = .running ∨ g.status = .finished := (role_status h hc).imp id (·.2)
theorem role_blocked {c : Cls} (h : ph.RoleOk t i c k M g) (hc : c.waits = true) : g.status = .blocked := by
 cases c with
 | wP => obtain ⟨g1, rfl, _⟩ := h; rfl
 | cP r => obtain ⟨g1, rfl, _⟩ := h; rfl
 | mP r got => obtain ⟨g1, rfl, _⟩ := h; rfl
 | _ => cases hc
theorem role_awake {c : Cls} (h : ph.RoleOk t i c k M g) : awake g := by
 intro s e
 cases hc : c.waits with
 | true => rw [role_blocked h hc] at e; cases e
 | false => rcases role_status' h hc with x | x <;> rw [x] at e <;> cases e
theorem role_woken {c : Cls} {a a' : Goroutine} {w : World} {sF sL rL cap cap' : Nat} {bF bL : Array Value} {tm tm' : Bool} {rF : Nat} (h : ph.RoleOk t i c k M g) (hF : w.heap[ph.F]? = some (.chan cap bF false sF rF tm)) (hL : w.heap[ph.L]? = some (.chan cap' bL false sL rL tm')) :
  woken ph.P a a' w g = g := by
 cases hc : c.waits with
 | false =>
  unfold woken
  split
  ·exact again_running _ (role_status' h hc)
  ·rfl
 | true =>
  cases c with
  | wP => obtain ⟨g1, rfl, _⟩ := h; exact woken_send_open _ _ hF
  | cP r => obtain ⟨g1, rfl, _⟩ := h; exact woken_recv_open _ _ hL
  | mP r got => obtain ⟨g1, rfl, _⟩ := h; exact woken_recv_open _ _ hF
  | _ => cases hc
theorem role_woken' {c : Cls} {a a' : Goroutine} {w : World} (h : ph.RoleOk t i c k M g) (hc : c.waits = false) : woken ph.P a a' w g = g := by
 unfold woken
 split
 ·exact again_running _ (role_status' h hc)
 ·rfl
theorem off_run {c : Cls} (h : ph.RoleOk t i c k M g) (hc : c.waits = false) (r : Nat) (b : Bool) : offersAt g r b = [] :=
 offersAt_of_not_blocked (by rcases role_status' h hc with x | x <;> rw [x] <;> simp) r b
theorem off_sendF {c : Cls} (h : ph.RoleOk t i c k M g) (hc : c ≠ .wP) : offersAt g ph.F true = [] := by
 cases hw : c.waits with
 | false => exact off_run h hw _ _
 | true =>
  cases c with
  | wP => exact absurd rfl hc
  | cP r => obtain ⟨g1, rfl, _⟩ := h; exact offersAt_parked_recv' ..
  | mP r got => obtain ⟨g1, rfl, _⟩ := h; exact offersAt_parked_recv' ..
  | _ => cases hw
theorem off_sendL {c : Cls} (h : ph.RoleOk t i c k M g) : offersAt g ph.L true = [] := by
 cases hw : c.waits with
 | false => exact off_run h hw _ _
 | true =>
  cases c with
  | wP => obtain ⟨g1, rfl, _⟩ := h; rw [Ph.sendF, offersAt_parked_send, if_neg ph.apart]
  | cP r => obtain ⟨g1, rfl, _⟩ := h; exact offersAt_parked_recv' ..
  | mP r got => obtain ⟨g1, rfl, _⟩ := h; exact offersAt_parked_recv' ..
  | _ => cases hw
theorem off_recvF {c : Cls} (h : ph.RoleOk t i c k M g) (hc : ∀ r got, c ≠ .mP r got) : offersAt g ph.F false = [] := by
 cases hw : c.waits with
 | false => exact off_run h hw _ _
 | true =>
  cases c with
  | wP => obtain ⟨g1, rfl, _⟩ := h; exact offersAt_parked_send' ..
  | cP r => obtain ⟨g1, rfl, _⟩ := h; rw [Ph.recvL, offersAt_parked_recv, if_neg (Ne.symm ph.apart)]
  | mP r got => exact absurd rfl (hc r got)
  | _ => cases hw
theorem off_recvL {c : Cls} (h : ph.RoleOk t i c k M g) (hc : ∀ r, c ≠ .cP r) : offersAt g ph.L false = [] := by
 cases hw : c.waits with
 | false => exact off_run h hw _ _
 | true =>
  cases c with
  | wP => obtain ⟨g1, rfl, _⟩ := h; exact offersAt_parked_send' ..
  | cP r => exact absurd rfl (hc r)
  | mP r got => obtain ⟨g1, rfl, _⟩ := h; rw [Ph.recvF, offersAt_parked_recv, if_neg ph.apart]
  | _ => cases hw
theorem role_trace {c : Cls} (h : ph.RoleOk t i c k M g) (hd : c = .lv → Deaf u i = Deaf t i) : ph.RoleOk u i c k M g := by
 cases c with
 | lv => show QuitsD ph.P k (Deaf u i) g; rw [hd rfl]; exact h
 | _ => exact h
theorem pers {op : MemOp} (h : t[i]? = some op) : (t ++ u)[i]? = some op := by rw [getElem?_append_old (lt_size_of_getElem? h)]; exact h
end
theorem Ph.Proto.closed {ph : Ph} {sz sL rL bs : Nat} {c : Nat → Cls} {cl : Bool} (h : ph.Proto sz c cl sL rL bs) (hc : cl = true) : c (ph.N0 + ph.n) = .lv ∧ rL = ph.n ∧ ∀ j, j < ph.n → c (ph.N0 + j) = .lv := by
 subst hc
 rcases h.clos with ⟨_, _, _, x⟩ | ⟨_, _, _, _, x⟩ | ⟨h1, h2, _⟩
 ·cases x
 ·cases x
 ·refine ⟨h1, h2, fun j hj => all_lv (f := fun j => c (ph.N0 + j)) ?_ hj⟩
  have := h.bsz
  have := h.cnt
  omega
theorem Ph.Proto.sz_le {ph : Ph} {sz sL rL bs : Nat} {c : Nat → Cls} {cl : Bool} (h : ph.Proto sz c cl sL rL bs) : ph.N0 ≤ sz ∧ sz ≤ ph.N0 + ph.n + 1 := by
 rcases h.main with ⟨s, _, h1, h2⟩ | ⟨_, h2⟩ <;> omega
theorem Ph.Proto.not_lv {ph : Ph} {sz sL rL bs i : Nat} {c : Nat → Cls} {cl : Bool} (h : ph.Proto sz c cl sL rL bs) (hc : cl = true) (h1 : ph.N0 ≤ i) (h2 : i < sz) : c i = .lv := by
 obtain ⟨h3, h4, h5⟩ := h.closed hc
 have := h.sz_le
 obtain ⟨j, rfl⟩ : ∃ j, i = ph.N0 + j := ⟨i - ph.N0, by omega⟩
 rcases Nat.lt_or_ge j ph.n with hlt | hge
 ·exact h5 j hlt
 ·obtain rfl : j = ph.n := by omega
  exact h3
section
variable {ph : Ph} {t u : Trace} {sz sL rL bs i : Nat} {c : Nat → Cls} {cl : Bool}
theorem Ph.Tr.own (h : ph.Tr t sz c cl sL rL) (hp : ph.Proto sz c cl sL rL bs) (hi : i = 0 ∨ (ph.N0 ≤ i ∧ i < sz ∧ c i ≠ .lv)) (hu : ∀ op ∈ u, op.g = i) (hF : ∀ op ∈ u, ∀ a, op.act.touch? = some a → a.loc.at ph.F → i = ph.N0 + ph.n ∧ ph.N0 + ph.n < sz) : ph.Tr (t ++ u) sz c cl sL rL := by
 have known0 : i = 0 → ∀ {x : Nat} {op z : MemOp}, op ∈ u → (t ++ u)[x]? = some z → z = op → Knows (t ++ u) 0 x := by
  intro h0 x op z hop hz e
  subst e
  have := knows_own hz
  rwa [hu z hop, h0] at this
 refine ⟨fun x a ha hm => ?_, fun j hj hl => ?_, fun k hk => ?_, fun hc => ?_, fun hz x a ha hF' => ?_, fun hz x a ha hF' => ?_⟩
 ·rcases touch_cases ha with h1 | ⟨op, hop, _, z, hz, e⟩
  ·rcases h.seen x a h1 hm with h2 | ⟨g, h2, h3⟩
   ·exact .inl (h2.app u)
   ·refine .inr ⟨g, ?_, h3⟩
    rw [g?_old]
    ·exact h2
    ·unfold Trace.g? at h2; obtain ⟨y, hy, _⟩ := Option.map_eq_some_iff.1 h2; exact lt_size_of_getElem? hy
  ·rcases hi with h0 | ⟨h1, h2, _⟩
   ·exact .inl (known0 h0 hop hz e)
   ·exact .inr ⟨i, by simp [Trace.g?, hz, e, hu op hop], h1, h2⟩
 ·obtain ⟨p, k, op, h1, h2, h3, h4, h5⟩ := h.tW j hj hl
  refine ⟨p, k, op, pers h1, h2, h3, (heard_old (lt_size_of_getElem? h1)).2 h4, fun x a ha hg => ?_⟩
  rcases touch_cases ha with h6 | ⟨op', hop, _, z, hz, e⟩
  ·have hx : x < t.size := by obtain ⟨y, hy, _⟩ := touch_of h6; exact lt_size_of_getElem? hy
   rw [g?_old hx] at hg
   exact (h5 x a h6 hg).imp (·.app u) (·.app u)
  ·exfalso
   simp only [Trace.g?, hz, Option.map_some, Option.some.injEq, e, hu op' hop] at hg
   rcases hi with h0 | ⟨_, _, h6⟩
   ·have := ph.pos; omega
   ·exact h6 (hg ▸ hl)
 ·obtain ⟨q, z, h1, h2, h3, h4⟩ := h.tC k hk
  exact ⟨q, z, pers h1, h2, h3, (heard_old (lt_size_of_getElem? h1)).2 h4⟩
 ·obtain ⟨pc, z, h1, h2, h3, h4⟩ := h.tX hc
  refine ⟨pc, z, pers h1, h2, (heard_old (lt_size_of_getElem? h1)).2 h3, fun x a ha hm => ?_⟩
  rcases touch_cases ha with h6 | ⟨op', hop, _, z, hz, e⟩
  ·exact (h4 x a h6 hm).imp (·.app u) (·.app u)
  ·rcases hi with h0 | ⟨h1, h2, h3⟩
   ·exact .inl (known0 h0 hop hz e)
   ·exact absurd (hp.not_lv hc h1 h2) h3
 ·rcases touch_cases ha with h1 | ⟨op, hop, h2, _⟩
  ·exact (h.tF0 hz x a h1 hF').app u
  ·have := (hF op hop a h2 hF').2; omega
 ·rcases touch_cases ha with h1 | ⟨op, hop, h2, z, hz', e⟩
  ·exact (h.tF1 hz x a h1 hF').app u
  ·subst e
   have := knows_own hz'
   rwa [hu z hop, (hF z hop a h2 hF').1] at this
theorem Ph.Tr.quiet (h : ph.Tr t sz c cl sL rL) (hu : ∀ op ∈ u, op.act.touch? = none) : ph.Tr (t ++ u) sz c cl sL rL := by
 have gold : ∀ {x : Nat} {a : Touch}, touchAt t x = some a → (t ++ u).g? x = t.g? x := fun {x a} h6 => by
  obtain ⟨y, hy, _⟩ := touch_of h6; exact g?_old (lt_size_of_getElem? hy)
 refine ⟨fun x a ha hm => ?_, fun j hj hl => ?_, fun k hk => ?_, fun hc => ?_, fun hz x a ha hF => (h.tF0 hz x a (quiet_touch hu ha) hF).app u, fun hz x a ha hF => (h.tF1 hz x a (quiet_touch hu ha) hF).app u⟩
 ·have h1 := quiet_touch hu ha
  rcases h.seen x a h1 hm with h2 | ⟨g, h2, h3⟩
  ·exact .inl (h2.app u)
  ·exact .inr ⟨g, by rw [gold h1]; exact h2, h3⟩
 ·obtain ⟨p, k, op, h1, h2, h3, h4, h5⟩ := h.tW j hj hl
  refine ⟨p, k, op, pers h1, h2, h3, (heard_old (lt_size_of_getElem? h1)).2 h4, fun x a ha hg => ?_⟩
  have h6 := quiet_touch hu ha
  rw [gold h6] at hg
  exact (h5 x a h6 hg).imp (·.app u) (·.app u)
 ·obtain ⟨q, z, h1, h2, h3, h4⟩ := h.tC k hk
  exact ⟨q, z, pers h1, h2, h3, (heard_old (lt_size_of_getElem? h1)).2 h4⟩
 ·obtain ⟨pc, z, h1, h2, h3, h4⟩ := h.tX hc
  exact ⟨pc, z, pers h1, h2, (heard_old (lt_size_of_getElem? h1)).2 h3, fun x a ha hm => (h4 x a (quiet_touch hu ha) hm).imp (·.app u) (·.app u)⟩
end
theorem Ph.Hp.own' {ph : Ph} {w0 w w' : World} {M0 M' : Mem} {mem : Nat → Mem} {i : Nat} (h : ph.Hp w0 M0 w mem) (hc : Chg (mem i) w w' M') : ph.Hp w0 M0 w' (upd mem i M') := by
 have hown : ∀ b, b < w0.heap.size → ¬ Has M0 b true → ¬ Has (mem i) b true := fun b hb h0 hx => (h.own i b hx).elim h0 fun x => by omega
 refine ⟨hc.os.trans h.os, hc.output.trans h.output, Nat.le_trans h.size hc.size, fun b h1 h2 h3 h4 => ?_, fun b h1 o ho => ?_, fun b h1 o ho => ?_, fun j b hb => ?_, h.lt, h.nin⟩
 ·rw [hc.other b (Nat.lt_of_lt_of_le h1 h.size) (hown b h1 h4)]; exact h.keep b h1 h2 h3 h4
 ·rcases Nat.lt_or_ge b w.heap.size with hlt | hge
  ·by_cases hx : Has (mem i) b true
   ·exact hc.cells b hx o ho
   ·rw [hc.other b hlt hx] at ho; exact h.fresh b h1 o ho
  ·exact hc.fresh b hge o ho
 ·rcases Nat.lt_or_ge b w.heap.size with hlt | hge
  ·by_cases hx : Has (mem i) b true
   ·exact hc.cells b hx o ho
   ·rw [hc.other b hlt hx] at ho; exact h.mine b h1 o ho
  ·exact hc.fresh b hge o ho
 ·by_cases hji : j = i
  ·subst hji
   rw [upd_same] at hb
   rcases hc.from' b true hb with x | ⟨x, _⟩ | x
   ·exact h.own j b x
   ·cases x
   ·exact .inr (Nat.le_trans h.size x)
  ·rw [upd_ne _ _ hji] at hb; exact h.own j b hb
theorem Ph.Hp.drew {ph : Ph} {w0 w : World} {M0 : Mem} {mem : Nat → Mem} (h : ph.Hp w0 M0 w mem) (d : Nat) : ph.Hp w0 M0 (w.at d) mem := ⟨h.os, h.output, h.size, h.keep, h.fresh, h.mine, h.own, h.lt, h.nin⟩
theorem Ph.Chan.drew {ph : Ph} {w : World} {cl : Bool} {sF sL rL : Nat} {buf : Array Value} (h : ph.Chan w cl sF sL rL buf) (d : Nat) : ph.Chan (w.at d) cl sF sL rL buf := ⟨h.F, h.L, h.buf⟩
theorem Ph.Hp.comm {ph : Ph} {w0 w w' : World} {M0 : Mem} {mem : Nat → Mem} (h : ph.Hp w0 M0 w mem) (ho : w'.os = w.os) (hu : w'.output = w.output) (hs : w'.heap.size = w.heap.size) (hh : ∀ b, b ≠ ph.F → b ≠ ph.L → w'.heap[b]? = w.heap[b]?) : ph.Hp w0 M0 w' mem :=
 ⟨ho.trans h.os, hu.trans h.output, by rw [hs]; exact h.size, fun b h1 h2 h3 h4 => by rw [hh b h2 h3]; exact h.keep b h1 h2 h3 h4,
  fun b h1 o h2 => h.fresh b h1 o (by rw [← hh b (fun e => by have := h.lt.1; omega) (fun e => by have := h.lt.2; omega)]; exact h2),
  fun b h1 o h2 => h.mine b h1 o (by rw [← hh b (fun e => h.nin.1 (e ▸ h1)) (fun e => h.nin.2 (e ▸ h1))]; exact h2), h.own, h.lt, h.nin⟩
theorem Ph.Hp.mems {ph : Ph} {w0 w : World} {M0 : Mem} {mem mem' : Nat → Mem} (h : ph.Hp w0 M0 w mem) (hm : ∀ i b, Has (mem' i) b true → ∃ j, Has (mem j) b true) : ph.Hp w0 M0 w mem' :=
 ⟨h.os, h.output, h.size, h.keep, h.fresh, h.mine, fun i b hb => have ⟨j, hj⟩ := hm i b hb; h.own j b hj, h.lt, h.nin⟩
theorem Ph.Tr.cls {ph : Ph} {t : Trace} {sz sz' sL sL' rL : Nat} {c c' : Nat → Cls} {cl : Bool} (h : ph.Tr t sz c cl sL rL) (hz : sz ≤ sz') (hs : sL ≤ sL') (hc : ∀ j, j < ph.n → c' (ph.N0 + j) = .lv → c (ph.N0 + j) = .lv) (hF : ph.N0 + ph.n < sz' → ph.N0 + ph.n < sz ∨ ∀ i a, touchAt t i = some a → a.loc.at ph.F → Knows t (ph.N0 + ph.n) i) : ph.Tr t sz' c' cl sL' rL :=
 ⟨fun i a ha hm => (h.seen i a ha hm).imp id fun ⟨g, h1, h2, h3⟩ => ⟨g, h1, h2, by omega⟩, fun j hj hl => have ⟨p, k, op, h1, h2, h3, h4⟩ := h.tW j hj (hc j hj hl); ⟨p, k, op, h1, h2, by omega, h4⟩, h.tC, h.tX, fun hz => h.tF0 (by omega), fun hz => (hF hz).elim h.tF1 id⟩
theorem map_same {P : Program} {gs : Array Goroutine} {a a' : Goroutine} {w : World} {i : Nat} (x : Goroutine) (h : ∀ j g, j ≠ i → gs[j]? = some g → woken P a a' w g = g) : (gs.map (woken P a a' w)).setIfInBounds i x = gs.setIfInBounds i x := by
 apply Array.ext_getElem?
 intro j
 by_cases hj : i = j
 ·subst hj; simp [Array.getElem?_setIfInBounds]
 ·rw [Array.getElem?_setIfInBounds_ne hj, Array.getElem?_setIfInBounds_ne hj, Array.getElem?_map]
  cases hg : gs[j]? with
  | none => rfl
  | some y => simp only [Option.map_some, Option.some.injEq]; exact h j y (Ne.symm hj) hg
theorem Ph.Proto.nowait {ph : Ph} {sz sL rL bs j : Nat} {c : Nat → Cls} {cl : Bool} (h : ph.Proto sz c cl sL rL bs) (hc : cl = true) (hj : j < sz) : (c j).waits = false := by
 obtain ⟨h3, h4, h5⟩ := h.closed hc
 rcases Nat.eq_zero_or_pos j with rfl | hpos
 ·rcases h.main with ⟨s, h6, _, h7⟩ | ⟨h6, h7⟩
  ·rw [h6]; rfl
  ·rcases h6 with ⟨r, got, h6⟩ | ⟨_, h6⟩
   ·rw [h6]; rfl
   ·rw [hc] at h6; cases h6
 ·rcases Nat.lt_or_ge j ph.N0 with hlt | hge
  ·rw [h.old j hpos hlt]; rfl
  ·rw [h.not_lv hc hge hj]; rfl
section
variable {ph : Ph} {w0 : World} {M0 : Mem} {gs : Array Goroutine} {w : World} {sl : Option (Nat × Nat)} {t : Trace} {c : Nat → Cls} {k : Nat → Nat} {mem : Nat → Mem} {cl : Bool} {sF sL rL : Nat} {buf : Array Value}
theorem Ph.Inv.lt (h : ph.Inv w0 M0 gs w t c k mem cl sF sL rL buf) : ph.F < w.heap.size ∧ ph.L < w.heap.size := ⟨lt_of_some h.chan.F, lt_of_some h.chan.L⟩
theorem Ph.Inv.drew (h : ph.Inv w0 M0 gs w t c k mem cl sF sL rL buf) (d : Nat) : ph.Inv w0 M0 gs (w.at d) t c k mem cl sF sL rL buf := ⟨h.uni.drew d, h.ok, h.above, h.proto, h.chan.drew d, h.tr, h.hp.drew d⟩
theorem Ph.Inv.nowake (h : ph.Inv w0 M0 gs w t c k mem cl sF sL rL buf) {a a' : Goroutine} {w' : World} (hF : w'.heap[ph.F]? = w.heap[ph.F]?) (hL : w'.heap[ph.L]? = w.heap[ph.L]?) (j : Nat) (g : Goroutine) (hj : gs[j]? = some g) : woken ph.P a a' w' g = g := by
 cases hcl : cl with
 | true => exact role_woken' (h.ok j g hj) (h.proto.nowait hcl (lt_of_some hj))
 | false =>
  have e1 := h.chan.F
  rw [hcl] at e1
  exact role_woken (h.ok j g hj) (by rw [hF]; exact e1) (by rw [hL]; exact h.chan.L)
theorem Ph.Inv.local (h : ph.Inv w0 M0 gs w t c k mem cl sF sL rL buf) {i k' : Nat} {g g' : Goroutine} {w' : World} {es : Array Event} {M' : Mem} (hi : gs[i]? = some g) (ha : ph.Act gs.size c i) (hlv : c i ≠ .lv)
  (hs : stepG ph.P (i == 0) g w = .go g' w' es) (hc : Chg (mem i) w w' M') (he : ∀ e ∈ es, OkAct M' (.ofEvent e)) (hr : ph.RoleOk t i (c i) k' M' g') :
  ∃ u, runT ph.P (crowd gs w sl) i = (.next (crowd (gs.setIfInBounds i g') w' sl), u) ∧ ph.Inv w0 M0 (gs.setIfInBounds i g') w' (t ++ u) c (upd k i k') (upd mem i M') cl sF sL rL buf := by
 obtain ⟨hF, hL⟩ := h.lt
 have hlt : i < gs.size := lt_of_some hi
 have nF : w'.heap[ph.F]? = w.heap[ph.F]? := hc.other _ hF fun hx => (h.uni.chan i).1 ⟨true, hx⟩
 have nL : w'.heap[ph.L]? = w.heap[ph.L]? := hc.other _ hL fun hx => (h.uni.chan i).2 ⟨true, hx⟩
 have hrun := runT_crowd_go (P := ph.P) (sl := sl) hi hs
 rw [map_same g' fun j y _ hj => h.nowake nF nL j y hj] at hrun
 have hu := okAct_ofEvents (g := i) (fn := g.frame.fn) (pos := g.frame.place) he
 refine ⟨_, hrun, ?_, fun j y hj => ?_, fun j hj => ?_, ?_, ?_, ?_, h.hp.own' hc⟩
 ·have := h.uni.local ha hF hL hc hu
  simpa using this
 ·by_cases hji : i = j
  ·subst hji
   rw [Array.getElem?_setIfInBounds_self_of_lt hlt] at hj
   obtain rfl := Option.some.inj hj
   rw [upd_same, upd_same]
   exact role_trace hr fun x => absurd x hlv
  ·rw [Array.getElem?_setIfInBounds_ne hji] at hj
   rw [upd_ne _ _ (Ne.symm hji), upd_ne _ _ (Ne.symm hji)]
   exact role_trace (h.ok j y hj) fun _ => Deaf_other t hji _ fun op hop => (hu op hop).1
 ·rw [Array.size_setIfInBounds] at hj
  rw [Deaf_other t (show i ≠ j by omega) _ fun op hop => (hu op hop).1]
  exact h.above j hj
 ·rw [Array.size_setIfInBounds]; exact h.proto
 ·exact ⟨nF.trans h.chan.F, nL.trans h.chan.L, h.chan.buf⟩
 ·rw [Array.size_setIfInBounds]
  refine h.tr.own h.proto (ha.imp id fun x => ⟨x.1, x.2.1, x.2.2⟩) (fun op hop => (hu op hop).1) fun op hop a ha' hF' => ?_
  obtain ⟨b, r, h1, h2, _⟩ := (hu op hop).2.2.2 a ha'
  obtain rfl := at_unique hF' h1
  exfalso
  rcases hc.from' _ r h2 with x | ⟨_, x⟩ | x
  ·exact (h.uni.chan i).1 ⟨r, x⟩
  ·exact (h.uni.chan i).1 ⟨true, x⟩
  ·omega
theorem Ph.Inv.slip (h : ph.Inv w0 M0 gs w t c k mem cl sF sL rL buf) {i : Nat} {g : Goroutine} (hi : gs[i]? = some g) (h0 : i ≠ 0) (hlv : c i = .lv) (hg : g.status = .running) :
  ∃ g' k' u, runT ph.P (crowd gs w sl) i = (.next (crowd (gs.setIfInBounds i g') w sl), u) ∧ k' < k i ∧ ph.Inv w0 M0 (gs.setIfInBounds i g') w (t ++ u) c (upd k i k') mem cl sF sL rL buf := by
 have hlt : i < gs.size := lt_of_some hi
 have hq : QuitsD ph.P (k i) (Deaf t i) g := by have := h.ok i g hi; rw [hlv] at this; exact this
 cases hk : k i with
 | zero => rw [hk] at hq; rw [hq.1] at hg; cases hg
 | succ n =>
  rw [hk] at hq
  rcases hq with ⟨hf, _⟩ | ⟨_, g', es, hm, hstp, hq'⟩
  ·rw [hf] at hg; cases hg
  have hi0 : (i == 0) = false := by simpa using h0
  have hrun := runT_crowd_go (P := ph.P) (sl := sl) hi (by rw [hi0]; exact hstp w)
  rw [map_same g' fun j y _ hj => h.nowake rfl rfl j y hj] at hrun
  have hu : ∀ op ∈ MemOp.ofEvents i g.frame.fn g.frame.place es, op.g = i ∧ op.act.touch? = none := fun op hop => by
   obtain ⟨e, he, rfl⟩ := Go.Conc.mem_ofEvents hop
   exact ⟨rfl, touch_mute (hm e he)⟩
  have hna : ¬ ph.Act gs.size c i := fun x => x.elim h0 fun x => x.2.2 hlv
  refine ⟨g', n, _, hrun, by omega, ?_, fun j y hj => ?_, fun j hj => ?_, ?_, h.chan, ?_, h.hp⟩
  ·have := h.uni.other hna hu
   simpa using this
  ·by_cases hji : i = j
   ·subst hji
    rw [Array.getElem?_setIfInBounds_self_of_lt hlt] at hj
    obtain rfl := Option.some.inj hj
    rw [upd_same, hlv]
    show QuitsD ph.P n _ _
    rw [Deaf_own]
    exact hq'
   ·rw [Array.getElem?_setIfInBounds_ne hji] at hj
    rw [upd_ne _ _ (Ne.symm hji)]
    exact role_trace (h.ok j y hj) fun _ => Deaf_other t hji _ fun op hop => (hu op hop).1
  ·rw [Array.size_setIfInBounds] at hj
   rw [Deaf_other t (show i ≠ j by omega) _ fun op hop => (hu op hop).1]
   exact h.above j hj
  ·rw [Array.size_setIfInBounds]; exact h.proto
  ·rw [Array.size_setIfInBounds]; exact h.tr.quiet fun op hop => (hu op hop).2
theorem act_upd {sz i : Nat} {x : Cls} (h1 : c i ≠ .lv) (h2 : x ≠ .lv) : ph.Act sz (upd c i x) = ph.Act sz c := by
 funext j
 unfold Ph.Act
 by_cases hji : j = i
 ·subst hji; rw [upd_same]; simp [h1, h2]
 ·rw [upd_ne _ _ hji]
theorem comm_ev {i : Nat} {fn : FuncId} {pos : String} : MemOp.ofEvents i fn pos #[] = #[] := rfl
theorem Ph.Inv.parks (h : ph.Inv w0 M0 gs w t c k mem cl sF sL rL buf) {i : Nat} {g : Goroutine} {cc : CommCase} {sh : CommShape} {x : Cls} {main : Bool} (hi : gs[i]? = some g) (hm : (i == 0) = main) (hat : AtC ph.P main (mem i) g cc sh) (hno : NoWays w (gs.setIfInBounds i Conc.ph) cc) (hc : c i ≠ .lv) (hx : x ≠ .lv) (hr : ph.RoleOk t i x 0 (mem i) (parked (bareG g) #[cc] sh)) (hp : ph.Proto gs.size (upd c i x) cl sL rL buf.size) (htr : ∀ j, j < ph.n → upd c i x (ph.N0 + j) = .lv → c (ph.N0 + j) = .lv) :
  runT ph.P (crowd gs w sl) i = (.next (crowd (gs.setIfInBounds i (parked (bareG g) #[cc] sh)) w sl), #[]) ∧ ph.Inv w0 M0 (gs.setIfInBounds i (parked (bareG g) #[cc] sh)) w t (upd c i x) (upd k i 0) mem cl sF sL rL buf := by
 have hlt : i < gs.size := lt_of_some hi
 have hst := hat.2 w (h.uni.holds i)
 rw [← hm] at hst
 have hrun := crowd_waits (P := ph.P) (sl := sl) hi hst fun cc' hcc => by
  simp only [List.mem_toArray, List.mem_cons, List.not_mem_nil, or_false] at hcc
  subst hcc
  exact hno
 refine ⟨hrun, ?_, fun j y hj => ?_, fun j hj => h.above j (by simpa using hj), by simpa using hp, h.chan, ?_, h.hp⟩
 ·rw [Array.size_setIfInBounds, act_upd hc hx]; exact h.uni
 ·by_cases hji : i = j
  ·subst hji
   rw [Array.getElem?_setIfInBounds_self_of_lt hlt] at hj
   obtain rfl := Option.some.inj hj
   rw [upd_same, upd_same]
   exact hr
  ·rw [Array.getElem?_setIfInBounds_ne hji] at hj
   rw [upd_ne _ _ (Ne.symm hji), upd_ne _ _ (Ne.symm hji)]
   exact h.ok j y hj
 ·rw [Array.size_setIfInBounds]
  exact ⟨h.tr.seen, fun j hj hl => h.tr.tW j hj (htr j hj hl), h.tr.tC, h.tr.tX, h.tr.tF0, h.tr.tF1⟩
end
end Go.Ov
