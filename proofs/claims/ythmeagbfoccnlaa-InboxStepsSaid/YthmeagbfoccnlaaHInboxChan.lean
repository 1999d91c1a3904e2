/- Written by hand (wip/tools/gen_inbox.py): the inbox' ways that send and receive, in one goroutine. -/
import Derived.Test.YthmeagbfoccnlaaB
import Derived.Test.YthmeagbfoccnlaaHand
import Derived.Test.YthmeagbfoccnlaaChecked
import Derived.Conc.LoneSelect
import Derived.KernelRfl
import Derived.Laws.Rows
namespace Go.Proofs.Ythmeagbfoccnlaa.FA
open Go.Conc Go.RowKit Go.Proofs.YthmeagbfoccnlaaW.PrintWords Go.Proofs.YthmeagbfoccnlaaW.PrintLast Go.Proofs.YthmeagbfoccnlaaW.PrintMore Go.Proofs.Ythmeagbfoccnlaa.Hand Go.Proofs.Ythmeagbfoccnlaa.B
set_option linter.unusedVariables false
set_option linter.unusedSimpArgs false
set_option maxRecDepth 100000 in
theorem put_room_u (g a b : Nat) (s : ByteArray) (w : World) (cap sn rn : Nat) (buf : Array Value) (hg : w.heap[g]? = some (.cells #[.chan (some a), .chan (some b), .bool false] 49 (0, 0))) (hc : w.heap[a]? = some (.chan cap buf false sn rn false)) (hroom : buf.size < cap) :
    Calls Try.prog 8 #[.pointer (some ⟨g, 0, none⟩), .bool true, .string s] w fun e w' => e = .returned (.int .i64 0) ∧ w' = w.setChan a cap (buf.push (.string s)) false (sn + 1) rn false := by
  refine calls_of_loneTo fun cs => ?_
  have e : Frame.enter Try.prog 8 #[.pointer (some ⟨g, 0, none⟩), .bool true, .string s] .normal = (base 8).at ⟨#[.pointer (some ⟨g, 0, none⟩), .bool true, .string s, undef, undef, undef, undef, undef, undef, undef, undef, undef, undef, undef, undef, undef, undef, undef, undef, undef, undef, undef, undef, undef, undef, undef, undef, undef, undef, undef], []⟩ [.code (Try.f8.body.getD .skip)] := by simp [Frame.enter, Frame.at, Try.func8, base, Try.f8]
  rw [e]
  have h0 := (blk_cell hg 0).trans rfl
  have h1 := (blk_cell hg 1).trans rfl
  have h2 := (blk_cell hg 2).trans rfl
  refine LoneTo.goes (n := 100) ?_
  simp only [Try.f8, Option.getD_some]
  (repeat (first | s_c stepG_seq | s_c stepG_region_end | s_c stepG_block | s_c stepG_skip | s_c stepG_inBlock | s_reg | s_op | s_cond true | s_cond false | s_c stepG_ret'))
  s_stop
  refine LoneTo.step (step_lone_select_send_room (c := a) (cap := cap) (buf := buf) (s := sn) (r := rn) (tm := false) (stepG_comm (cases := #[scase a (.string s) (.string ⟨#[]⟩)]) (blocking := false) (shape := .select) (w' := w) rfl rfl (by decide) (by simp [go_sem, execOp, scase, rcase, Act.eval])) hc hroom) ?_
  rw [Frame.finish_at]
  walk_nrm
  refine LoneTo.goes (n := 100) ?_
  (repeat (first | s_c stepG_seq | s_c stepG_region_end | s_c stepG_block | s_c stepG_skip | s_c stepG_inBlock | s_reg | s_op | s_cond true | s_cond false | s_c stepG_ret'))
  s_stop
  refine LoneTo.done ⟨.returned (.int .i64 0), _, rfl, ⟨rfl, rfl⟩, rfl, rfl, rfl, rfl, _, Try.func8, by simp [results, Try.f8, Frame.at]⟩
set_option maxRecDepth 100000 in
theorem put_full_u (g a b : Nat) (s : ByteArray) (w : World) (cap sn rn : Nat) (buf : Array Value) (hg : w.heap[g]? = some (.cells #[.chan (some a), .chan (some b), .bool false] 49 (0, 0))) (hc : w.heap[a]? = some (.chan cap buf false sn rn false)) (hroom : cap ≤ buf.size) :
    Calls Try.prog 8 #[.pointer (some ⟨g, 0, none⟩), .bool true, .string s] w fun e w' => e = .returned (.int .i64 5) ∧ w' = w := by
  refine calls_of_loneTo fun cs => ?_
  have e : Frame.enter Try.prog 8 #[.pointer (some ⟨g, 0, none⟩), .bool true, .string s] .normal = (base 8).at ⟨#[.pointer (some ⟨g, 0, none⟩), .bool true, .string s, undef, undef, undef, undef, undef, undef, undef, undef, undef, undef, undef, undef, undef, undef, undef, undef, undef, undef, undef, undef, undef, undef, undef, undef, undef, undef, undef], []⟩ [.code (Try.f8.body.getD .skip)] := by simp [Frame.enter, Frame.at, Try.func8, base, Try.f8]
  rw [e]
  have h0 := (blk_cell hg 0).trans rfl
  have h1 := (blk_cell hg 1).trans rfl
  have h2 := (blk_cell hg 2).trans rfl
  refine LoneTo.goes (n := 100) ?_
  simp only [Try.f8, Option.getD_some]
  (repeat (first | s_c stepG_seq | s_c stepG_region_end | s_c stepG_block | s_c stepG_skip | s_c stepG_inBlock | s_reg | s_op | s_cond true | s_cond false | s_c stepG_ret'))
  s_stop
  refine LoneTo.step (step_lone_select_send_full (c := a) (cap := cap) (buf := buf) (s := sn) (r := rn) (tm := false) (stepG_comm (cases := #[scase a (.string s) (.string ⟨#[]⟩)]) (blocking := false) (shape := .select) (w' := w) rfl rfl (by decide) (by simp [go_sem, execOp, scase, rcase, Act.eval])) hc hroom) ?_
  rw [Frame.finish_at]
  walk_nrm
  refine LoneTo.goes (n := 100) ?_
  (repeat (first | s_c stepG_seq | s_c stepG_region_end | s_c stepG_block | s_c stepG_skip | s_c stepG_inBlock | s_reg | s_op | s_cond true | s_cond false | s_c stepG_ret'))
  s_stop
  refine LoneTo.done ⟨.returned (.int .i64 5), _, rfl, ⟨rfl, rfl⟩, rfl, rfl, rfl, rfl, _, Try.func8, by simp [results, Try.f8, Frame.at]⟩
set_option maxRecDepth 100000 in
theorem put_room_n (g a b : Nat) (s : ByteArray) (w : World) (cap sn rn : Nat) (buf : Array Value) (hg : w.heap[g]? = some (.cells #[.chan (some a), .chan (some b), .bool false] 49 (0, 0))) (hc : w.heap[b]? = some (.chan cap buf false sn rn false)) (hroom : buf.size < cap) :
    Calls Try.prog 8 #[.pointer (some ⟨g, 0, none⟩), .bool false, .string s] w fun e w' => e = .returned (.int .i64 0) ∧ w' = w.setChan b cap (buf.push (.string s)) false (sn + 1) rn false := by
  refine calls_of_loneTo fun cs => ?_
  have e : Frame.enter Try.prog 8 #[.pointer (some ⟨g, 0, none⟩), .bool false, .string s] .normal = (base 8).at ⟨#[.pointer (some ⟨g, 0, none⟩), .bool false, .string s, undef, undef, undef, undef, undef, undef, undef, undef, undef, undef, undef, undef, undef, undef, undef, undef, undef, undef, undef, undef, undef, undef, undef, undef, undef, undef, undef], []⟩ [.code (Try.f8.body.getD .skip)] := by simp [Frame.enter, Frame.at, Try.func8, base, Try.f8]
  rw [e]
  have h0 := (blk_cell hg 0).trans rfl
  have h1 := (blk_cell hg 1).trans rfl
  have h2 := (blk_cell hg 2).trans rfl
  refine LoneTo.goes (n := 100) ?_
  simp only [Try.f8, Option.getD_some]
  (repeat (first | s_c stepG_seq | s_c stepG_region_end | s_c stepG_block | s_c stepG_skip | s_c stepG_inBlock | s_reg | s_op | s_cond true | s_cond false | s_c stepG_ret'))
  s_stop
  refine LoneTo.step (step_lone_select_send_room (c := b) (cap := cap) (buf := buf) (s := sn) (r := rn) (tm := false) (stepG_comm (cases := #[scase b (.string s) (.string ⟨#[]⟩)]) (blocking := false) (shape := .select) (w' := w) rfl rfl (by decide) (by simp [go_sem, execOp, scase, rcase, Act.eval])) hc hroom) ?_
  rw [Frame.finish_at]
  walk_nrm
  refine LoneTo.goes (n := 100) ?_
  (repeat (first | s_c stepG_seq | s_c stepG_region_end | s_c stepG_block | s_c stepG_skip | s_c stepG_inBlock | s_reg | s_op | s_cond true | s_cond false | s_c stepG_ret'))
  s_stop
  refine LoneTo.done ⟨.returned (.int .i64 0), _, rfl, ⟨rfl, rfl⟩, rfl, rfl, rfl, rfl, _, Try.func8, by simp [results, Try.f8, Frame.at]⟩
set_option maxRecDepth 100000 in
theorem put_full_n (g a b : Nat) (s : ByteArray) (w : World) (cap sn rn : Nat) (buf : Array Value) (hg : w.heap[g]? = some (.cells #[.chan (some a), .chan (some b), .bool false] 49 (0, 0))) (hc : w.heap[b]? = some (.chan cap buf false sn rn false)) (hroom : cap ≤ buf.size) :
    Calls Try.prog 8 #[.pointer (some ⟨g, 0, none⟩), .bool false, .string s] w fun e w' => e = .returned (.int .i64 5) ∧ w' = w := by
  refine calls_of_loneTo fun cs => ?_
  have e : Frame.enter Try.prog 8 #[.pointer (some ⟨g, 0, none⟩), .bool false, .string s] .normal = (base 8).at ⟨#[.pointer (some ⟨g, 0, none⟩), .bool false, .string s, undef, undef, undef, undef, undef, undef, undef, undef, undef, undef, undef, undef, undef, undef, undef, undef, undef, undef, undef, undef, undef, undef, undef, undef, undef, undef, undef], []⟩ [.code (Try.f8.body.getD .skip)] := by simp [Frame.enter, Frame.at, Try.func8, base, Try.f8]
  rw [e]
  have h0 := (blk_cell hg 0).trans rfl
  have h1 := (blk_cell hg 1).trans rfl
  have h2 := (blk_cell hg 2).trans rfl
  refine LoneTo.goes (n := 100) ?_
  simp only [Try.f8, Option.getD_some]
  (repeat (first | s_c stepG_seq | s_c stepG_region_end | s_c stepG_block | s_c stepG_skip | s_c stepG_inBlock | s_reg | s_op | s_cond true | s_cond false | s_c stepG_ret'))
  s_stop
  refine LoneTo.step (step_lone_select_send_full (c := b) (cap := cap) (buf := buf) (s := sn) (r := rn) (tm := false) (stepG_comm (cases := #[scase b (.string s) (.string ⟨#[]⟩)]) (blocking := false) (shape := .select) (w' := w) rfl rfl (by decide) (by simp [go_sem, execOp, scase, rcase, Act.eval])) hc hroom) ?_
  rw [Frame.finish_at]
  walk_nrm
  refine LoneTo.goes (n := 100) ?_
  (repeat (first | s_c stepG_seq | s_c stepG_region_end | s_c stepG_block | s_c stepG_skip | s_c stepG_inBlock | s_reg | s_op | s_cond true | s_cond false | s_c stepG_ret'))
  s_stop
  refine LoneTo.done ⟨.returned (.int .i64 5), _, rfl, ⟨rfl, rfl⟩, rfl, rfl, rfl, rfl, _, Try.func8, by simp [results, Try.f8, Frame.at]⟩
set_option maxRecDepth 100000 in
theorem take_u (g a b : Nat) (cl : Bool) (w : World) (cap sn rn cap' sn' rn' : Nat) (buf : Array Value) (hg : w.heap[g]? = some (.cells #[.chan (some a), .chan (some b), .bool cl] 49 (0, 0))) (hc : w.heap[a]? = some (.chan cap buf false sn rn false)) (hsome : 0 < buf.size) :
    Calls Try.prog 9 #[.pointer (some ⟨g, 0, none⟩)] w fun e w' => e = .returned (.tuple #[buf[0]?.getD undef, .bool true, .int .i64 0]) ∧ w' = w.setChan a cap (buf.extract 1 buf.size) false sn (rn + 1) false := by
  refine calls_of_loneTo fun cs => ?_
  have e : Frame.enter Try.prog 9 #[.pointer (some ⟨g, 0, none⟩)] .normal = (base 9).at ⟨#[.pointer (some ⟨g, 0, none⟩), undef, undef, undef, undef, undef, undef, undef, undef, undef, undef, undef, undef, undef, undef, undef, undef, undef, undef, undef, undef, undef, undef, undef, undef, undef, undef], []⟩ [.code (Try.f9.body.getD .skip)] := by simp [Frame.enter, Frame.at, Try.func9, base, Try.f9]
  rw [e]
  have h0 := (blk_cell hg 0).trans rfl
  have h1 := (blk_cell hg 1).trans rfl
  have h2 := (blk_cell hg 2).trans rfl
  refine LoneTo.goes (n := 100) ?_
  simp only [Try.f9, Option.getD_some]
  (repeat (first | s_c stepG_seq | s_c stepG_region_end | s_c stepG_block | s_c stepG_skip | s_c stepG_inBlock | s_reg | s_op | s_cond true | s_cond false | s_c stepG_ret'))
  s_stop
  refine LoneTo.step (step_lone_select_recv_buf (c := a) (cap := cap) (buf := buf) (s := sn) (r := rn) (closed := false) (tm := false) (stepG_comm (cases := #[rcase a (.string ⟨#[]⟩)]) (blocking := false) (shape := .select) (w' := w) rfl rfl (by decide) (by simp [go_sem, execOp, scase, rcase, Act.eval])) hc hsome) ?_
  rw [Frame.finish_at]
  walk_nrm
  refine LoneTo.goes (n := 100) ?_
  (repeat (first | s_c stepG_seq | s_c stepG_region_end | s_c stepG_block | s_c stepG_skip | s_c stepG_inBlock | s_reg | s_op | s_cond true | s_cond false | s_c stepG_ret'))
  s_stop
  refine LoneTo.done ⟨.returned (.tuple #[buf[0]?.getD undef, .bool true, .int .i64 0]), _, rfl, ⟨rfl, rfl⟩, rfl, rfl, rfl, rfl, _, Try.func9, by simp [results, Try.f9, Frame.at, Array.getElem?_eq_getElem hsome]⟩
set_option maxRecDepth 100000 in
theorem take_n (g a b : Nat) (cl : Bool) (w : World) (cap sn rn cap' sn' rn' : Nat) (buf : Array Value) (hg : w.heap[g]? = some (.cells #[.chan (some a), .chan (some b), .bool cl] 49 (0, 0))) (he : w.heap[a]? = some (.chan cap' #[] false sn' rn' false)) (hc : w.heap[b]? = some (.chan cap buf false sn rn false)) (hsome : 0 < buf.size) :
    Calls Try.prog 9 #[.pointer (some ⟨g, 0, none⟩)] w fun e w' => e = .returned (.tuple #[buf[0]?.getD undef, .bool false, .int .i64 0]) ∧ w' = w.setChan b cap (buf.extract 1 buf.size) false sn (rn + 1) false := by
  refine calls_of_loneTo fun cs => ?_
  have e : Frame.enter Try.prog 9 #[.pointer (some ⟨g, 0, none⟩)] .normal = (base 9).at ⟨#[.pointer (some ⟨g, 0, none⟩), undef, undef, undef, undef, undef, undef, undef, undef, undef, undef, undef, undef, undef, undef, undef, undef, undef, undef, undef, undef, undef, undef, undef, undef, undef, undef], []⟩ [.code (Try.f9.body.getD .skip)] := by simp [Frame.enter, Frame.at, Try.func9, base, Try.f9]
  rw [e]
  have h0 := (blk_cell hg 0).trans rfl
  have h1 := (blk_cell hg 1).trans rfl
  have h2 := (blk_cell hg 2).trans rfl
  refine LoneTo.goes (n := 100) ?_
  simp only [Try.f9, Option.getD_some]
  (repeat (first | s_c stepG_seq | s_c stepG_region_end | s_c stepG_block | s_c stepG_skip | s_c stepG_inBlock | s_reg | s_op | s_cond true | s_cond false | s_c stepG_ret'))
  s_stop
  refine LoneTo.step (step_lone_select_default (c := a) (cap := cap') (s := sn') (r := rn') (tm := false) (stepG_comm (cases := #[rcase a (.string ⟨#[]⟩)]) (blocking := false) (shape := .select) (w' := w) rfl rfl (by decide) (by simp [go_sem, execOp, scase, rcase, Act.eval])) he) ?_
  rw [Frame.finish_at]
  walk_nrm
  refine LoneTo.goes (n := 100) ?_
  (repeat (first | s_c stepG_seq | s_c stepG_region_end | s_c stepG_block | s_c stepG_skip | s_c stepG_inBlock | s_reg | s_op | s_cond true | s_cond false | s_c stepG_ret'))
  s_stop
  refine LoneTo.step (step_lone_select_recv_buf (c := b) (cap := cap) (buf := buf) (s := sn) (r := rn) (closed := false) (tm := false) (stepG_comm (cases := #[rcase b (.string ⟨#[]⟩)]) (blocking := false) (shape := .select) (w' := w) rfl rfl (by decide) (by simp [go_sem, execOp, scase, rcase, Act.eval])) hc hsome) ?_
  rw [Frame.finish_at]
  walk_nrm
  refine LoneTo.goes (n := 100) ?_
  (repeat (first | s_c stepG_seq | s_c stepG_region_end | s_c stepG_block | s_c stepG_skip | s_c stepG_inBlock | s_reg | s_op | s_cond true | s_cond false | s_c stepG_ret'))
  s_stop
  refine LoneTo.done ⟨.returned (.tuple #[buf[0]?.getD undef, .bool false, .int .i64 0]), _, rfl, ⟨rfl, rfl⟩, rfl, rfl, rfl, rfl, _, Try.func9, by simp [results, Try.f9, Frame.at, Array.getElem?_eq_getElem hsome]⟩
set_option maxRecDepth 100000 in
theorem take_e (g a b : Nat) (cl : Bool) (w : World) (cap sn rn cap' sn' rn' : Nat) (buf : Array Value) (hg : w.heap[g]? = some (.cells #[.chan (some a), .chan (some b), .bool cl] 49 (0, 0))) (he : w.heap[a]? = some (.chan cap' #[] false sn' rn' false)) (hc : w.heap[b]? = some (.chan cap #[] false sn rn false)) :
    Calls Try.prog 9 #[.pointer (some ⟨g, 0, none⟩)] w fun e w' => e = .returned (.tuple #[.string ⟨#[]⟩, .bool false, .int .i64 6]) ∧ w' = w := by
  refine calls_of_loneTo fun cs => ?_
  have e : Frame.enter Try.prog 9 #[.pointer (some ⟨g, 0, none⟩)] .normal = (base 9).at ⟨#[.pointer (some ⟨g, 0, none⟩), undef, undef, undef, undef, undef, undef, undef, undef, undef, undef, undef, undef, undef, undef, undef, undef, undef, undef, undef, undef, undef, undef, undef, undef, undef, undef], []⟩ [.code (Try.f9.body.getD .skip)] := by simp [Frame.enter, Frame.at, Try.func9, base, Try.f9]
  rw [e]
  have h0 := (blk_cell hg 0).trans rfl
  have h1 := (blk_cell hg 1).trans rfl
  have h2 := (blk_cell hg 2).trans rfl
  refine LoneTo.goes (n := 100) ?_
  simp only [Try.f9, Option.getD_some]
  (repeat (first | s_c stepG_seq | s_c stepG_region_end | s_c stepG_block | s_c stepG_skip | s_c stepG_inBlock | s_reg | s_op | s_cond true | s_cond false | s_c stepG_ret'))
  s_stop
  refine LoneTo.step (step_lone_select_default (c := a) (cap := cap') (s := sn') (r := rn') (tm := false) (stepG_comm (cases := #[rcase a (.string ⟨#[]⟩)]) (blocking := false) (shape := .select) (w' := w) rfl rfl (by decide) (by simp [go_sem, execOp, scase, rcase, Act.eval])) he) ?_
  rw [Frame.finish_at]
  walk_nrm
  refine LoneTo.goes (n := 100) ?_
  (repeat (first | s_c stepG_seq | s_c stepG_region_end | s_c stepG_block | s_c stepG_skip | s_c stepG_inBlock | s_reg | s_op | s_cond true | s_cond false | s_c stepG_ret'))
  s_stop
  refine LoneTo.step (step_lone_select_default (c := b) (cap := cap) (s := sn) (r := rn) (tm := false) (stepG_comm (cases := #[rcase b (.string ⟨#[]⟩)]) (blocking := false) (shape := .select) (w' := w) rfl rfl (by decide) (by simp [go_sem, execOp, scase, rcase, Act.eval])) hc) ?_
  rw [Frame.finish_at]
  walk_nrm
  refine LoneTo.goes (n := 100) ?_
  (repeat (first | s_c stepG_seq | s_c stepG_region_end | s_c stepG_block | s_c stepG_skip | s_c stepG_inBlock | s_reg | s_op | s_cond true | s_cond false | s_c stepG_ret'))
  s_stop
  refine LoneTo.done ⟨.returned (.tuple #[.string ⟨#[]⟩, .bool false, .int .i64 6]), _, rfl, ⟨rfl, rfl⟩, rfl, rfl, rfl, rfl, _, Try.func9, by simp [results, Try.f9, Frame.at]⟩
end Go.Proofs.Ythmeagbfoccnlaa.FA
