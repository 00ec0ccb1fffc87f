/- The reader's number: what (*reader).uint does, a return or a panic. -/
import Derived.Test.YtihfopblmjgfaaaQ27
import Derived.Defers
import Derived.Recover
import Derived.WalkSmall
import Derived.Laws.NewBlocks
namespace Go.Proofs.Ytihfopblmjgfaaa.Q
open Go.RowKit Go.Proofs.YtihfopblmjgfaaaW.PrintWords Go.Proofs.YtihfopblmjgfaaaW.PrintLast Go.Proofs.YtihfopblmjgfaaaW.PrintMore
set_option linter.unusedVariables false
set_option linter.unusedSimpArgs false

/-- How one reading ends: the number, or the failure. -/
def UintPost (b : Nat) (p n v e : Int) (w : World) : Ending → World → Prop := fun en w' =>
  (e = 0 ∧ en = .returned (.int .i64 v) ∧ Drawn0 (w.setCell ⟨b, 1, none⟩ (.int .i64 (wrap64 (p + n)))) w') ∨ (e ≠ 0 ∧ en = .panicked [{ v := .iface 99 (.agg #[.int .i64 e]), recovered := false }] ∧ Drawn0 w w')

set_option maxHeartbeats 8000000 in
set_option maxRecDepth 100000 in
theorem reader_uint.calls (k : Nat) (b : Nat) (A : Option Addr) (c : Nat) (l : List Int) (p n v e : Int) (w : World) (hblk : w.heap[b]? = some (.cells #[.slice A l.length c, .int .i64 p] 102 (0, 0)))
    (hr : Kd.C (Kd.int .u8) w A l.length l) (hc : l.length ≤ c) (h : marker_ReadUint.f k l p n = some (v, e)) :
    Calls Try.prog 49 #[.pointer (some ⟨b, 0, none⟩), .int .i64 n] w (UintPost b p n v e w) := by
  have hb : w.cell? ⟨b, 0, none⟩ = some (.slice A l.length c) := (blk_cell hblk 0).trans rfl
  have hp : w.cell? ⟨b, 1, none⟩ = some (.int .i64 p) := (blk_cell hblk 1).trans rfl
  have hz := blk_frozen hblk 1
  clear hblk
  have HR := Aside0.mk hr
  have HC := Aside0.mk hc
  have H := Aside0.mk h
  clear hr hc h
  go_enter Try.func49, Try.ntmps49
  go_wp2_with (first | (go_at_call 52; (with_reducible refine (marker_ReadUint.calls k _ _ l p n v e _ ?side1 ?side2 H.out).mono ?_); (case side1 => repeat (first | exact HR.out | (with_reducible refine Kd.C_alloc ?_ _) | (with_reducible refine Kd.C_drewN ?_ _) | (with_reducible refine Kd.C_drew ?_))); (case side2 => exact HC.out); rintro e w' ⟨rfl, ⟨nd, rfl⟩⟩; (try first | exact ⟨rfl, _, World.drewN_drewN _ _ _⟩ | exact ⟨rfl, _, Eq.trans (World.drewN_drewN _ _ _) (congrArg (World.drewN _) (Nat.add_assoc _ _ _))⟩)))
  repeat (go_quiet (first | (go_at_call 52; (with_reducible refine (marker_ReadUint.calls k _ _ l p n v e _ ?side1 ?side2 H.out).mono ?_); (case side1 => repeat (first | exact HR.out | (with_reducible refine Kd.C_alloc ?_ _) | (with_reducible refine Kd.C_drewN ?_ _) | (with_reducible refine Kd.C_drew ?_))); (case side2 => exact HC.out); rintro e w' ⟨rfl, ⟨nd, rfl⟩⟩; (try first | exact ⟨rfl, _, World.drewN_drewN _ _ _⟩ | exact ⟨rfl, _, Eq.trans (World.drewN_drewN _ _ _) (congrArg (World.drewN _) (Nat.add_assoc _ _ _))⟩))))
  by_cases he : e = 0
  · subst he
    go_wp2
    go_ret
    exact .inl ⟨rfl, rfl, ⟨⟨nq, rfl⟩⟩⟩
  · have he' : decide (e = 0) = false := decide_eq_false he
    go_wp2
    exact ⟨rfl, .inr ⟨he, rfl, ⟨⟨nq, rfl⟩⟩⟩⟩

set_option maxHeartbeats 8000000 in
set_option maxRecDepth 100000 in
/-- The deferred closure of parse in a frame that panics with a failure: it is recovered, the named result is laid. -/
theorem parse_catch (g : Nat) (x e : Int) (older : List PanicEntry) (w : World) (hg : w.heap[g]? = some (.cells #[.int .i64 x] 29 (0, 0))) :
    CallsD Try.prog 63 #[.pointer (some ⟨g, 0, none⟩)] (.panicking ({ v := .iface 99 (.agg #[.int .i64 e]), recovered := false } :: older)) w fun en u' w' =>
      en = .returned (.tuple #[]) ∧ u' = .panicking ({ v := .iface 99 (.agg #[.int .i64 e]), recovered := true } :: older) ∧ w' = (w.setCell ⟨g, 0, none⟩ (.int .i64 e)).alloc (.cells #[.int .i64 e] 99) := by
  refine callsD_of_wpS Try.func63 rfl fun c₀ cs hu => ?_
  apply wpS_seq
  apply wpS_region
  simp [wpOpsS, go_sem, recoverD, hu, Try.ntmps63, Exit.thenS]
  apply wpS_seq
  apply wpS_region
  simp [wpOpsS, go_sem, Exit.thenS]
  refine wpS_cond (t := true) (by simp [Act.eval, Array.replicate]) ?_
  simp only [if_true]
  refine wpS_of_wp ?_
  simp only [Array.replicate_succ, Array.replicate_zero, List.push_toArray, List.append_toArray, List.nil_append, List.cons_append, List.setIfInBounds_toArray, List.set]
  have hlt := blk_lt hg
  have hc : w.cell? ⟨g, 0, none⟩ = some (.int .i64 x) := (blk_cell hg 0).trans rfl
  have hz := blk_frozen hg 0
  have hta : ∀ (e : Int) (w : World), (Instr.typeAssert (.iface 99 (.agg #[.int .i64 e])) 20 99 true).run Try.prog w = .ok (.tuple #[.agg #[.int .i64 e], .bool true]) w := fun _ _ => by kernel_rfl
  have hnot : ∀ (x : Bool) (w : World), (Op.unary .not (.bool x)).run Try.prog w = .ok (.bool (!x)) w := fun _ _ => rfl
  go_wp2
  exact ⟨rfl, _, rfl, _, results_none rfl _ _ _, rfl, rfl, rfl⟩
theorem parse_idle (g : Nat) (w : World) :
    CallsD Try.prog 63 #[.pointer (some ⟨g, 0, none⟩)] .returning w fun en u' w' => en = .returned (.tuple #[]) ∧ u' = .returning ∧ w' = w := by
  refine callsD_of_wpS Try.func63 rfl fun c₀ cs hu => ?_
  apply wpS_seq
  apply wpS_region
  simp [wpOpsS, go_sem, recoverD, hu, Try.ntmps63, Exit.thenS]
  apply wpS_seq
  apply wpS_region
  simp [wpOpsS, go_sem, Exit.thenS]
  refine wpS_cond (t := false) (by simp [Act.eval, Array.replicate]) ?_
  simp only [Bool.false_eq_true, if_false]
  refine wpS_of_wp (wp_skip ?_)
  cases c₀
  simp_all [bodyPostS, results, Try.results63]

/-- Nothing but the blocks of S, and new ones, has changed. -/
structure Only (S : Nat → Prop) (w w' : World) : Prop where
  os : w'.os = w.os
  tape : w'.tape = w.tape
  output : w'.output = w.output
  size : w.heap.size ≤ w'.heap.size
  block : ∀ k, k < w.heap.size → ¬ S k → w'.heap[k]? = w.heap[k]?
theorem drawn_blk {w w' : World} (h : Drawn0 w w') {g : Nat} {o : Obj} (hb : w.heap[g]? = some o) : w'.heap[g]? = some o := blk_below hb h.below
namespace Only
variable {S T : Nat → Prop} {w w1 w2 : World}
theorem refl (S : Nat → Prop) (w : World) : Only S w w := ⟨rfl, rfl, rfl, Nat.le_refl _, fun _ _ _ => rfl⟩
theorem trans (h : Only S w w1) (k : Only S w1 w2) : Only S w w2 :=
  ⟨k.os.trans h.os, k.tape.trans h.tape, k.output.trans h.output, Nat.le_trans h.size k.size, fun j hj hs => (k.block j (Nat.lt_of_lt_of_le hj h.size) hs).trans (h.block j hj hs)⟩
theorem mono (h : Only S w w1) (hs : ∀ k, k < w.heap.size → S k → T k) : Only T w w1 := ⟨h.os, h.tape, h.output, h.size, fun j hj ht => h.block j hj (fun hk => ht (hs j hj hk))⟩
theorem of_below (h : Below w.heap.size w w1) : Only S w w1 := ⟨h.os, h.tape, h.output, h.size, fun j hj _ => h.block j hj⟩
theorem of_drawn (h : Drawn0 w w1) : Only S w w1 := of_below h.below
theorem alloc (h : Only S w w1) (o : Obj) : Only S w (w1.alloc o) := h.trans (of_below (below_alloc (Below.refl _ _) o))
theorem drewN (h : Only S w w1) (n : Nat) : Only S w (w1.drewN n) := h.trans (of_below (pw_below_drewN (Below.refl _ _) n))
theorem setCell (h : Only S w w1) {g : Nat} (hg : S g) (i : Nat) (u : Value) : Only S w (w1.setCell ⟨g, i, none⟩ u) := by
  exact h.trans ⟨rfl, rfl, rfl, by simp [World.setCell], fun j hj hs => Below.heap_setCell w1 ⟨g, i, none⟩ u j (fun e => hs (e ▸ hg))⟩
theorem blk {g : Nat} {o : Obj} (h : Only S w w1) (hb : w.heap[g]? = some o) (hs : ¬ S g) : w1.heap[g]? = some o := (h.block g (blk_lt hb) hs).trans hb
theorem below {B : Nat} (h : Only S w w1) (hB : B ≤ w.heap.size) (hs : ∀ k, S k → B ≤ k) : Below B w w1 := ⟨h.os, h.tape, h.output, h.size, fun k hk => h.block k (Nat.lt_of_lt_of_le hk hB) (fun hq => absurd (hs k hq) (by omega))⟩
theorem drop (h : Only S w w1) (hs : ∀ k, S k → T k ∨ w.heap.size ≤ k) : Only T w w1 := ⟨h.os, h.tape, h.output, h.size, fun j hj ht => h.block j hj (fun hk => (hs j hk).elim ht (fun hq => absurd hq (by omega)))⟩
end Only

/-- A reader's state: its cells; what came in before; what the call has turned. -/
structure RS (S : Nat → Prop) (wb w1 : World) (ra : Nat) (A : Option Addr) (n c : Nat) (p : Int) (W : World) : Prop where
  br : W.heap[ra]? = some (.cells #[.slice A n c, .int .i64 p] 102 (0, 0))
  below : Below wb.heap.size wb W
  only : Only S w1 W
namespace RS
variable {S : Nat → Prop} {wb w1 W W' : World} {ra n c : Nat} {A : Option Addr} {p p' : Int}
theorem read (h : RS S wb w1 ra A n c p W) (hb : wb.heap.size ≤ ra) (hs : S ra) (q : Int) (hd : Drawn0 (W.setCell ⟨ra, 1, none⟩ (.int .i64 q)) W') (hq : q = p') : RS S wb w1 ra A n c p' W' := by
  subst hq
  have h1 : Below wb.heap.size wb (W.setCell ⟨ra, 1, none⟩ (.int .i64 q)) := h.below.setCell (p := ⟨ra, 1, none⟩) hb _
  exact ⟨drawn_blk hd (blk_put h.br 1 _ rfl), below_then h1 h1.size hd.below, (h.only.setCell hs 1 _).trans (Only.of_drawn hd)⟩
theorem drawn (h : RS S wb w1 ra A n c p W) (hd : Drawn0 W W') : RS S wb w1 ra A n c p W' := ⟨drawn_blk hd h.br, below_then h.below h.below.size hd.below, h.only.trans (Only.of_drawn hd)⟩
theorem store (h : RS S wb w1 ra A n c p W) {g : Nat} (hb : wb.heap.size ≤ g) (hs : S g) (hr : g ≠ ra) (i : Nat) (u : Value) : RS S wb w1 ra A n c p (W.setCell ⟨g, i, none⟩ u) :=
  ⟨blk_far h.br (p := ⟨g, i, none⟩) (Ne.symm hr) u, h.below.setCell (p := ⟨g, i, none⟩) hb _, h.only.setCell hs i u⟩
theorem far {g : Nat} {t : TypeId} {cs : Array Value} (hb : W.heap[g]? = some (.cells cs t (0, 0))) (hr : g ≠ ra) {q : Int} (hd : Drawn0 (W.setCell ⟨ra, 1, none⟩ (.int .i64 q)) W') : W'.heap[g]? = some (.cells cs t (0, 0)) :=
  drawn_blk hd (blk_far hb (p := ⟨ra, 1, none⟩) hr _)
end RS

set_option maxHeartbeats 8000000 in
set_option maxRecDepth 100000 in
theorem parse.calls (F : Nat) (hcf : ∀ (args : Array Value) (w : World), (callFunc F args).run Try.prog w = .ok (.enter F args) w) (cap : Array Value) (ar : Nat → Array Value) (har : ∀ ra, #[.pointer (some ⟨ra, 0, none⟩)] ++ cap = ar ra) (S : Nat → Prop) (code cd : Int) (A : Option Addr) (c : Nat) (l : List Int) (w0 : World) (hr : Kd.C (Kd.int .u8) w0 A l.length l) (hc : l.length ≤ c)
    (OkP ErrP : Int → World → Prop) (hS : ∀ k, S k → k < w0.heap.size)
    (hOk : ∀ p w1 w2, OkP p w1 → Only (fun k => w0.heap.size ≤ k) w1 w2 → OkP p w2) (hErr : ∀ p w1 w2, ErrP p w1 → Only (fun k => w0.heap.size ≤ k) w1 w2 → ErrP p w2)
    (hF : ∀ (w1 : World) (ra : Nat), Below w0.heap.size w0 w1 → w0.heap.size ≤ ra → w1.heap[ra]? = some (.cells #[.slice A l.length c, .int .i64 0] 102 (0, 0)) → Calls Try.prog F (ar ra) w1 fun en w2 => Only (fun k => S k ∨ k = ra) w1 w2 ∧ ((∃ p, en = .returned (.tuple #[]) ∧ w2.heap[ra]? = some (.cells #[.slice A l.length c, .int .i64 p] 102 (0, 0)) ∧ OkP p w2) ∨ ∃ e, en = .panicked [{ v := .iface 99 (.agg #[.int .i64 e]), recovered := false }] ∧ ErrP e w2)) :
    Calls Try.prog 47 #[.agg #[.int .i64 code, .slice A l.length c], .int .i64 cd, .func (.func F) #[] cap] w0 fun en w' => ∃ e, en = .returned (.int .i64 e) ∧ Only S w0 w' ∧ ((code ≠ cd ∧ e = 11 ∧ Only (fun _ => False) w0 w') ∨ (code = cd ∧ ((∃ p, OkP p w' ∧ e = if p < (l.length : Int) then 9 else 0) ∨ ErrP e w'))) := by
  have hmf : ∀ (fn : Fn) (first cap : Array Value) (w : World), (Instr.makeFunc fn first cap).run Try.prog w = .ok (.func fn first cap) w := fun _ _ _ _ => rfl
  go_enter_defers Try.func47, Try.ntmps47
  by_cases hcd : code = cd
  · subst hcd
    go_wp2
    refine (hF _ _ ?b1 ?b2 ?b3).mono ?_
    case b1 => exact ((Below.refl _ _).alloc (Nat.le_refl _) _).alloc (by simp) _ |>.alloc (by simp; omega) _
    case b2 => omega
    case b3 => rw [show w0.heap.size + 1 + 1 = ((w0.alloc (Obj.cells #[Value.int IntKind.i64 code, Value.slice A l.length c] 26)).alloc (Obj.cells #[Value.int IntKind.i64 0] 29)).heap.size by simp]; exact blk_new _ _
    have hO1 : Only S w0 (((w0.alloc (Obj.cells #[Value.int IntKind.i64 code, Value.slice A l.length c] 26)).alloc (Obj.cells #[Value.int IntKind.i64 0] 29)).alloc (Obj.cells #[Value.slice A l.length c, Value.int IntKind.i64 0] 102)) := (((Only.refl S w0).alloc _).alloc _).alloc _
    have hb1 : (((w0.alloc (Obj.cells #[Value.int IntKind.i64 code, Value.slice A l.length c] 26)).alloc (Obj.cells #[Value.int IntKind.i64 0] 29)).alloc (Obj.cells #[Value.slice A l.length c, Value.int IntKind.i64 0] 102)).heap[w0.heap.size + 1]? = some (.cells #[.int .i64 0] 29 (0, 0)) := blk_alloc (by rw [show w0.heap.size + 1 = (w0.alloc (Obj.cells #[Value.int IntKind.i64 code, Value.slice A l.length c] 26)).heap.size by simp]; exact blk_new _ _) _
    generalize hW : (((w0.alloc (Obj.cells #[Value.int IntKind.i64 code, Value.slice A l.length c] 26)).alloc (Obj.cells #[Value.int IntKind.i64 0] 29)).alloc (Obj.cells #[Value.slice A l.length c, Value.int IntKind.i64 0] 102)) = W at hO1 hb1
    clear hW
    rintro en w2 ⟨hon, ⟨p, rfl, hbr, hok⟩ | ⟨e, rfl, herr⟩⟩
    · have hbe : w2.heap[w0.heap.size + 1]? = some (.cells #[.int .i64 0] 29 (0, 0)) := hon.blk hb1 (fun h => h.elim (fun h => absurd (hS _ h) (by omega)) (fun h => absurd h (by omega)))
      have hO2 : Only (fun k => S k ∨ k = w0.heap.size + 1 + 1) w0 w2 := (hO1.mono (fun _ _ h => Or.inl h)).trans hon
      clear hF hb1 hon hO1
      have hlt := blk_lt hbe
      have hlr := blk_lt hbr
      have hce : w2.cell? ⟨w0.heap.size + 1, 0, none⟩ = some (.int .i64 0) := (blk_cell hbe 0).trans rfl
      have hze := blk_frozen hbe 0
      have hcr0 : w2.cell? ⟨w0.heap.size + 1 + 1, 0, none⟩ = some (.slice A l.length c) := (blk_cell hbr 0).trans rfl
      have hcr1 : w2.cell? ⟨w0.heap.size + 1 + 1, 1, none⟩ = some (.int .i64 p) := (blk_cell hbr 1).trans rfl
      simp only []
      go_wp2
      repeat (go_quiet (fail))
      by_cases hp : p < (l.length : Int)
      · have hp' : decide (p < (l.length : Int)) = true := decide_eq_true hp
        go_wp2
        refine leaves_cons (f := 63) (args := #[.pointer (some ⟨w0.heap.size + 1, 0, none⟩)]) (by simp) (by simp [go_sem]) ?_
        refine (parse_idle (w0.heap.size + 1) _).mono ?_
        rintro e u' w'' ⟨rfl, rfl, rfl⟩
        have hv : ((w2.drewN nq).setCell ⟨w0.heap.size + 1, 0, none⟩ (.int .i64 9)).cell? ⟨w0.heap.size + 1, 0, none⟩ = some (.int .i64 9) := (blk_cell (blk_put (blk_drewN hbe nq) 0 (.int .i64 9) rfl) 0).trans rfl
        simp only [Leaves, settle, results, Try.results47]
        refine ⟨.int .i64 9, by simp [go_sem, hv], 9, rfl, ?_, .inl ⟨p, ?_, by rw [if_pos hp]⟩⟩
        · exact ((hO2.drewN nq).mono (T := fun k => S k ∨ w0.heap.size ≤ k) (fun k _ h => h.imp id (fun h => by omega))).setCell (.inr (by omega)) 0 _ |>.drop (fun k h => h)
        · exact hOk _ _ _ hok (((Only.refl (fun k => w0.heap.size ≤ k) w2).drewN nq).setCell (by omega) 0 _)
      · have hp' : decide (p < (l.length : Int)) = false := decide_eq_false hp
        go_wp2
        refine leaves_cons (f := 63) (args := #[.pointer (some ⟨w0.heap.size + 1, 0, none⟩)]) (by simp) (by simp [go_sem]) ?_
        refine (parse_idle (w0.heap.size + 1) _).mono ?_
        rintro e u' w'' ⟨rfl, rfl, rfl⟩
        have hv : ((w2.drewN nq).setCell ⟨w0.heap.size + 1, 0, none⟩ (.int .i64 0)).cell? ⟨w0.heap.size + 1, 0, none⟩ = some (.int .i64 0) := (blk_cell (blk_put (blk_drewN hbe nq) 0 (.int .i64 0) rfl) 0).trans rfl
        simp only [Leaves, settle, results, Try.results47]
        refine ⟨.int .i64 0, by simp [go_sem, hv], 0, rfl, ?_, .inl ⟨p, ?_, by rw [if_neg (by omega)]⟩⟩
        · exact ((hO2.drewN nq).mono (T := fun k => S k ∨ w0.heap.size ≤ k) (fun k _ h => h.imp id (fun h => by omega))).setCell (.inr (by omega)) 0 _ |>.drop (fun k h => h)
        · exact hOk _ _ _ hok (((Only.refl (fun k => w0.heap.size ≤ k) w2).drewN nq).setCell (by omega) 0 _)
    · have hbe : w2.heap[w0.heap.size + 1]? = some (.cells #[.int .i64 0] 29 (0, 0)) := hon.blk hb1 (fun h => h.elim (fun h => absurd (hS _ h) (by omega)) (fun h => absurd h (by omega)))
      have hO2 : Only (fun k => S k ∨ k = w0.heap.size + 1 + 1) w0 w2 := (hO1.mono (fun _ _ h => Or.inl h)).trans hon
      clear hF hb1 hon hO1
      refine leaves_cons (f := 63) (args := #[.pointer (some ⟨w0.heap.size + 1, 0, none⟩)]) (by simp) (by simp [go_sem]) ?_
      refine (parse_catch (w0.heap.size + 1) 0 e [] w2 hbe).mono ?_
      rintro en u' w'' ⟨rfl, rfl, rfl⟩
      have hv : ((w2.setCell ⟨w0.heap.size + 1, 0, none⟩ (.int .i64 e)).alloc (.cells #[.int .i64 e] 99)).cell? ⟨w0.heap.size + 1, 0, none⟩ = some (.int .i64 e) := (blk_cell (blk_alloc (blk_put hbe 0 (.int .i64 e) rfl) _) 0).trans rfl
      simp only [Leaves, settle, results, Try.results47, List.dropWhile]
      refine ⟨.int .i64 e, by simp [go_sem, hv], e, rfl, ?_, .inr ⟨trivial, .inr ?_⟩⟩
      · exact ((hO2.mono (T := fun k => S k ∨ w0.heap.size ≤ k) (fun k _ h => h.imp id (fun h => by omega))).setCell (.inr (by omega)) 0 _ |>.alloc _).drop (fun k h => h)
      · exact hErr _ _ _ herr (((Only.refl (fun k => w0.heap.size ≤ k) w2).setCell (by omega) 0 _).alloc _)
  · have hcd' : decide (code = cd) = false := decide_eq_false hcd
    go_wp2
    refine leaves_cons (f := 63) (args := #[.pointer (some ⟨w0.heap.size + 1, 0, none⟩)]) (by simp) (by simp [go_sem]) ?_
    refine (parse_idle (w0.heap.size + 1) _).mono ?_
    rintro e u' w'' ⟨rfl, rfl, rfl⟩
    simp [Leaves, settle, results, Try.results47, go_sem]
    exact ⟨((Only.refl S w0).alloc _).alloc _, .inl ⟨hcd, ((Only.refl _ w0).alloc _).alloc _⟩⟩
end Go.Proofs.Ytihfopblmjgfaaa.Q
